import PyProof.Rows.All
import Wide.All
import OpenK.AllK
import Wide.FinOn
import PySem.Challenge.RW_flowstack_k03_read
import KE.KStateDown
import Lean
import HandS.ForMost
import HandS.Exc
import HandS.ExcOwn
import HandS.ExcInit
import HandS.ExcField
import HandS.TryOnly
import HandS.TryMany
import HandS.WordsExc
import HandS.RevRange
import HandS.Strs
import HandS.Conv
import HandS.More
import HandS.Defaults
import HandS.IsInst
import HandS.Deep
import HandS.SetFor
import HandS.Zip
import HandS.Head0
import HandS.Head1
import HandS.Head2
import HandS.HeadEnd
import HandS.HeadHook1
import HandS.HeadHook2
import HandS.HeadHook3
import HandS.HeadHook4
import HandS.Iter
import PyProof.Rows.SetFrom
import HandS.Set
import HandS.Dict
import PyProof.SetRoads
import KE.DataMinMax
import KE.SortData
set_option Elab.async false
set_option linter.all false
set_option maxRecDepth 100000
set_option maxHeartbeats 4000000
/-! the base of our own: promises with their binding, calls by them, steps of readings -/
namespace Flow
open PySem PySem.Spec PyProof.Rows L2

/-- a def that keeps a promise, and how it binds -/
structure DefOk (P : Program) (w : World) (K : PySem.W.Frag) (mg : Str → Option Value) (base : Heap) (k : Nat) (f : Addr) (ps : List Str) (sp : Sp) : Prop where
  ex : ∃ fd, FnOk P w K mg base (L2.CX P w) k f fd ps sp ∧ Binds K fd ps []
  kp : PySem.W.keepIn K (.ref f) = true
structure MethOk (P : Program) (w : World) (K : PySem.W.Frag) (mg : Str → Option Value) (base : Heap) (k : Nat) (C : Addr) (m : Str) (ps : List Str) (sp : Sp) : Prop where
  cls : Cls K C
  ex : ∃ f, Meth K C m f ∧ DefOk P w K mg base k f ps sp
structure MakeOk (P : Program) (w : World) (K : PySem.W.Frag) (mg : Str → Option Value) (base : Heap) (k : Nat) (C : Addr) (ps : List Str) (sp : Sp) : Prop where
  ex : ∃ f, Mk K C f ∧ DefOk P w K mg base k f ps sp
section
variable {P : Program} {w : World} {K : PySem.W.Frag} {mg : Str → Option Value} {base : Heap} {k j : Nat} {f C : Addr} {m : Str} {ps : List Str} {sp sp' : Sp}
theorem DefOk.mono (D : DefOk P w K mg base j f ps sp) (h : j ≤ k) : DefOk P w K mg base k f ps sp := by
  obtain ⟨⟨fd, F, b⟩, kp⟩ := D
  exact ⟨⟨fd, F.mono h, b⟩, kp⟩
theorem DefOk.imp (D : DefOk P w K mg base k f ps sp) (h : ∀ vs H Q E, sp' vs H Q E → sp vs H Q E) : DefOk P w K mg base k f ps sp' := by
  obtain ⟨⟨fd, F, b⟩, kp⟩ := D
  exact ⟨⟨fd, F.imp h, b⟩, kp⟩
theorem MethOk.mono (D : MethOk P w K mg base j C m ps sp) (h : j ≤ k) : MethOk P w K mg base k C m ps sp := by
  obtain ⟨c, f, M, D⟩ := D
  exact ⟨c, f, M, D.mono h⟩
theorem MethOk.imp (D : MethOk P w K mg base k C m ps sp) (h : ∀ vs H Q E, sp' vs H Q E → sp vs H Q E) : MethOk P w K mg base k C m ps sp' := by
  obtain ⟨c, f, M, D⟩ := D
  exact ⟨c, f, M, D.imp h⟩
theorem MakeOk.mono (D : MakeOk P w K mg base j C ps sp) (h : j ≤ k) : MakeOk P w K mg base k C ps sp := by
  obtain ⟨f, M, D⟩ := D
  exact ⟨f, M, D.mono h⟩
theorem MakeOk.imp (D : MakeOk P w K mg base k C ps sp) (h : ∀ vs H Q E, sp' vs H Q E → sp vs H Q E) : MakeOk P w K mg base k C ps sp' := by
  obtain ⟨f, M, D⟩ := D
  exact ⟨f, M, D.imp h⟩
/-- THE RULE for a def of the text -/
theorem def_ok {x qual : Str} {st : Stmt} {N : List Str} (F : ∃ fd, FunD K x qual (defArgs st) (defBody st) (defScope st) [] [] f fd) (S : FnScope N ps (defScope st))
    (hb : ∀ (kV doc pm : Value) (an : Option Addr) (cdv ct : Value) (us : List Value), us.length = ps.length → bindArgs (PySem.W.fnOf x qual (defArgs st) (defBody st) (defScope st) .none kV doc pm an cdv ct) ⟨us, []⟩ = pure (ps.zip us))
    (len : ∀ vs H Q E, sp vs H Q E → vs.length = ps.length)
    (hbody : ∀ (cdv : Value) (A : Around) (outer : List Env) (s : Shared) (H : Hp) (vs : List V) (Q : VK) (E : XK), Room k (A.deeper (envOfC qual (defScope st) s.heap.objs.size f cdv)) → sp vs H Q E →
      ∃ (t : TS) (σ : L2.St), PSs (cxOf (L2.CX P w) P w K mg base N qual (defScope st) f cdv A outer s H E) (defBody st) t ∧ σ = start N vs ∧ t { nx := fun _ H' => Q .non H', rt := Q } σ H) : DefOk P w K mg base (k + 1) f ps sp := by
  obtain ⟨fd, F⟩ := F
  exact ⟨⟨fd, F.ok S len fun cdv A outer s H vs Q E hr h => by
    obtain ⟨t, σ, a, e, b⟩ := hbody cdv A outer s H vs Q E hr h
    subst e
    exact ⟨t, a, b⟩, F.bindsN hb⟩, F.kp⟩
end

/-! ### calls -/
def tFn (sp : Sp) (E : L2.St → XK) (t : TA) : TE := fun σ H Q => t σ H fun vs H1 => sp vs H1 Q (E σ)
def tMm (ok : Addr → Prop) (m : Str) (sp : Addr → Sp) (E : L2.St → XK) (ta : TE) (t : TA) : TE := fun σ H Q => ta σ H fun x H1 => ∃ a C dx fs, x = .ref a ∧ H1 a = some (.ins C dx fs) ∧ ok C ∧ fs.lookup m = none ∧
  t σ H1 fun vs H2 => sp C (x :: vs) H2 Q (E σ)
def tMk (C : Addr) (sp : Sp) (E : L2.St → XK) (t : TA) : TE := fun σ H Q => t σ H fun vs H1 => ∀ x dx, H1 x = none → H1 dx = none → dx ≠ x →
  sp (.ref x :: vs) (upd (upd H1 dx (.own x)) x (.ins C dx [])) (fun v H2 => v = .non ∧ Q (.ref x) H2) (E σ)
section
variable {X : Cx} {k : Nat} {f C : Addr} {fd : FuncData} {ps : List Str} {sp : Sp} {spC : Addr → Sp} {E : L2.St → XK} {x m : Str} {p pos apos : Pos} {e o : Expr} {es : List Expr} {ta : TE} {t : TA} {ok : Addr → Prop}
theorem passE {σ : L2.St} : PassesAt (L2.CX X.prog X.w) X σ E0 := fun _ _ _ _ _ _ h => by
  obtain ⟨_, _, _, _, _, _, _, _, _, _, _, _, z⟩ := h
  exact z.elim
theorem run_d {pins : List (Addr × Obj)} {σ : L2.St} {H : Hp} {s : Shared} {Q : VK} {us : List Value} {vs : List V} (D : DefOk X.prog X.w X.K X.mg X.base k f ps sp) (hr : Room k X.A) (hx : ∀ σ, PassesAt (L2.CX X.prog X.w) X σ (E σ))
    (I : Inv X pins σ H s) (r : Vals vs us) (h : sp vs H Q (E σ)) : wpAny (model X.prog X.w) X.A (call (.ref f) us) (EP X pins σ Q) X.xe s := by
  obtain ⟨⟨fd, F, hb⟩, kp⟩ := D
  exact run_fnS F hr hb (hx σ) I r h
theorem pe_fn (D : DefOk X.prog X.w X.K X.mg X.base k f ps sp) (hm : X.mg x = some (.ref f)) (hr : Room k X.A) (hx : ∀ σ, PassesAt (L2.CX X.prog X.w) X σ (E σ)) (ha : PA X (e :: es) t) (hg : Gl X x := by rfl)
    (hdb : (x == ("__debug__" : Str)) = false := by decide) (he : starEach (e :: es) X.env = (false, eval e X.env) :: starEach es X.env := by rfl) (hpl : (backTo pos (starEach es X.env)).any (·.1) = false := by rfl) :
    PE X (.Call (.Name x p) (e :: es) [] pos) (tFn sp E t) := by
  refine ⟨fun pins s σ H Q I h => ?_⟩
  refine wpAny_Call_Name_kw (ld_glob I hg hm ?_ hdb)
  refine PySem.W.callWith_K (h₀ := X.base) I.ok.mod.kin D.kp (thn (ha.run pos pins s σ H _ I h) fun us s1 ⟨vs, H1, I1, r, q⟩ => ⟨I1.kIn, ?_⟩) he hpl
  exact run_d D hr hx I1 r q
theorem pe_fn0 (D : DefOk X.prog X.w X.K X.mg X.base k f ps sp) (hm : X.mg x = some (.ref f)) (hr : Room k X.A) (hx : ∀ σ, PassesAt (L2.CX X.prog X.w) X σ (E σ)) (hg : Gl X x := by rfl)
    (hdb : (x == ("__debug__" : Str)) = false := by decide) : PE X (.Call (.Name x p) [] [] pos) (tFn sp E tNil) := by
  refine ⟨fun pins s σ H Q I h => ?_⟩
  refine wpAny_Call_Name_kw (ld_glob I hg hm ?_ hdb)
  exact PySem.W.callWith_K0 I.kIn D.kp (run_d (us := []) D hr hx I .nil h)
theorem pe_mm {pl : Sem Bool} (D : ∀ C, ok C → MethOk X.prog X.w X.K X.mg X.base k C m ps (spC C)) (hr : Room k X.A) (hx : ∀ σ, PassesAt (L2.CX X.prog X.w) X σ (E σ)) (he : PE X o ta) (ha : PA X (e :: es) t)
    (hst : starEach (e :: es) X.env = (false, eval e X.env) :: starEach es X.env := by rfl) (hpl : (backTo pos (starEach es X.env)).any (·.1) = false := by rfl)
    (ht : eval (.Call (.Attribute o m apos) (e :: es) [] pos) X.env = (do
      let ov ← eval o X.env
      standAt apos.atName
      let (f, first) ← holding [ov] (getMethod ov m pl)
      callWith pos f first (backTo pos (starEach (e :: es) X.env)) (backToKw pos (keywordEach [] X.env))) := by rfl) :
    PE X (.Call (.Attribute o m apos) (e :: es) [] pos) (tMm ok m spC E ta t) := by
  refine ⟨fun pins s σ H Q I h => ?_⟩
  refine PySem.W.methodCall_KW (pl := pl) (thn (he.run pins s σ H _ I h) fun u s1 ⟨x, H1, I1, rx, a, C, dx, fs, ex, ea, hC, l, q⟩ => ?_) ht
  subst ex
  obtain rfl : u = Value.ref a := rx
  obtain ⟨c, f, hm, D⟩ := D C hC
  refine getmeth_ok I1 ea c hm l ?_
  refine PySem.W.callWith_K (first := [.ref a]) (h₀ := X.base) I.ok.mod.kin hm.kp (thn (ha.run pos pins s1 σ H1 _ I1 q) fun us s2 ⟨vs, H2, I2, r, q2⟩ => ⟨I2.kIn, ?_⟩) hst hpl
  exact run_d (us := .ref a :: us) (vs := .ref a :: vs) D hr hx I2 (.cons rfl r) q2
theorem pe_mm0 {pl : Sem Bool} (D : ∀ C, ok C → MethOk X.prog X.w X.K X.mg X.base k C m ps (spC C)) (hr : Room k X.A) (hx : ∀ σ, PassesAt (L2.CX X.prog X.w) X σ (E σ)) (he : PE X o ta)
    (ht : eval (.Call (.Attribute o m apos) [] [] pos) X.env = (do
      let ov ← eval o X.env
      standAt apos.atName
      let (f, first) ← holding [ov] (getMethod ov m pl)
      callWith pos f first (backTo pos (starEach [] X.env)) (backToKw pos (keywordEach [] X.env))) := by rfl) :
    PE X (.Call (.Attribute o m apos) [] [] pos) (tMm ok m spC E ta tNil) := by
  refine ⟨fun pins s σ H Q I h => ?_⟩
  refine PySem.W.methodCall_KW (pl := pl) (thn (he.run pins s σ H _ I h) fun u s1 ⟨x, H1, I1, rx, a, C, dx, fs, ex, ea, hC, l, q⟩ => ?_) ht
  subst ex
  obtain rfl : u = Value.ref a := rx
  obtain ⟨c, f, hm, D⟩ := D C hC
  refine getmeth_ok I1 ea c hm l ?_
  exact PySem.W.callWith_K0 (first := [.ref a]) I1.kIn hm.kp (run_d (us := [.ref a]) (vs := [.ref a]) D hr hx I1 (.cons rfl .nil) q)
/-- o.m(e, ..), the promise chosen by the reading -/
def tMu (P : Program) (w : World) (K : PySem.W.Frag) (mg : Str → Option Value) (base : Heap) (k : Nat) (m : Str) (ps : List Str) (E : L2.St → XK) (ta : TE) (t : TA) : TE := fun σ H Q => ta σ H fun x H1 => ∃ (a C dx : Addr) (fs : List (Str × V)) (sp : Sp), x = .ref a ∧ H1 a = some (.ins C dx fs) ∧
  MethOk P w K mg base k C m ps sp ∧ fs.lookup m = none ∧ t σ H1 fun vs H2 => sp (x :: vs) H2 Q (E σ)
theorem pe_mu {pl : Sem Bool} (k : Nat) (ps : List Str) (hr : Room k X.A) (hx : ∀ σ, PassesAt (L2.CX X.prog X.w) X σ (E σ)) (he : PE X o ta) (ha : PA X (e :: es) t)
    (hst : starEach (e :: es) X.env = (false, eval e X.env) :: starEach es X.env := by rfl) (hpl : (backTo pos (starEach es X.env)).any (·.1) = false := by rfl)
    (ht : eval (.Call (.Attribute o m apos) (e :: es) [] pos) X.env = (do
      let ov ← eval o X.env
      standAt apos.atName
      let (f, first) ← holding [ov] (getMethod ov m pl)
      callWith pos f first (backTo pos (starEach (e :: es) X.env)) (backToKw pos (keywordEach [] X.env))) := by rfl) :
    PE X (.Call (.Attribute o m apos) (e :: es) [] pos) (tMu X.prog X.w X.K X.mg X.base k m ps E ta t) := by
  refine ⟨fun pins s σ H Q I h => ?_⟩
  refine PySem.W.methodCall_KW (pl := pl) (thn (he.run pins s σ H _ I h) fun u s1 ⟨x, H1, I1, rx, a, C, dx, fs, sp, ex, ea, D, l, q⟩ => ?_) ht
  subst ex
  obtain rfl : u = Value.ref a := rx
  obtain ⟨c, f, hm, D⟩ := D
  refine getmeth_ok I1 ea c hm l ?_
  refine PySem.W.callWith_K (first := [.ref a]) (h₀ := X.base) I.ok.mod.kin hm.kp (thn (ha.run pos pins s1 σ H1 _ I1 q) fun us s2 ⟨vs, H2, I2, r, q2⟩ => ⟨I2.kIn, ?_⟩) hst hpl
  exact run_d (us := .ref a :: us) (vs := .ref a :: vs) D hr hx I2 (.cons rfl r) q2
theorem pe_mu0 {pl : Sem Bool} (k : Nat) (ps : List Str) (hr : Room k X.A) (hx : ∀ σ, PassesAt (L2.CX X.prog X.w) X σ (E σ)) (he : PE X o ta)
    (ht : eval (.Call (.Attribute o m apos) [] [] pos) X.env = (do
      let ov ← eval o X.env
      standAt apos.atName
      let (f, first) ← holding [ov] (getMethod ov m pl)
      callWith pos f first (backTo pos (starEach [] X.env)) (backToKw pos (keywordEach [] X.env))) := by rfl) :
    PE X (.Call (.Attribute o m apos) [] [] pos) (tMu X.prog X.w X.K X.mg X.base k m ps E ta tNil) := by
  refine ⟨fun pins s σ H Q I h => ?_⟩
  refine PySem.W.methodCall_KW (pl := pl) (thn (he.run pins s σ H _ I h) fun u s1 ⟨x, H1, I1, rx, a, C, dx, fs, sp, ex, ea, D, l, q⟩ => ?_) ht
  subst ex
  obtain rfl : u = Value.ref a := rx
  obtain ⟨c, f, hm, D⟩ := D
  refine getmeth_ok I1 ea c hm l ?_
  exact PySem.W.callWith_K0 (first := [.ref a]) I1.kIn hm.kp (run_d (us := [.ref a]) (vs := [.ref a]) D hr hx I1 (.cons rfl .nil) q)
theorem run_mk {pins : List (Addr × Obj)} {σ : L2.St} {H : Hp} {s : Shared} {Q : VK} {us : List Value} {vs : List V} (M : Mk X.K C f) (D : DefOk X.prog X.w X.K X.mg X.base k f ps sp) (hr : Room (k + 1) X.A)
    (hx : ∀ (pins : List (Addr × Obj)) (σ : L2.St) (H : Hp) (s : Shared) (e : Value) (s' : Shared), Inv X pins σ H s → L2.CX X.prog X.w X.stack H s (E σ) e s' → X.xe e s') (I : Inv X pins σ H s) (r : Vals vs us)
    (h : ∀ x dx, H x = none → H dx = none → dx ≠ x → sp (.ref x :: vs) (upd (upd H dx (.own x)) x (.ins C dx [])) (fun v H2 => v = .non ∧ Q (.ref x) H2) (E σ)) :
    wpAny (model X.prog X.w) X.A (call (.ref C) us) (EP X pins σ Q) X.xe s := by
  obtain ⟨⟨fd, F, hb⟩, kp⟩ := D
  have hq := h (s.heap.objs.size + 1) s.heap.objs.size (I.hok.fresh (Nat.le_succ _)) (I.hok.fresh (Nat.le_refl _)) (Nat.ne_of_lt (Nat.lt_succ_self _))
  have I2 := Inv.made (C := C) I
  have r2 : Vals (V.ref (s.heap.objs.size + 1) :: vs) (Value.ref (s.heap.objs.size + 1) :: us) := .cons rfl r
  have hl : (Value.ref (s.heap.objs.size + 1) :: us ++ []).length = ps.length := by
    have e := r2.length
    rw [F.len _ _ _ _ hq] at e
    rw [List.append_nil]
    exact e.symm
  have hb2 := hb ⟨(s.heap.push PySem.W.emptyDict).push (PySem.W.instObj C s.heap.objs.size), s.gens, s.drawn, s.toks, s.os⟩ (Value.ref (s.heap.objs.size + 1) :: us) I2.kIn hl
  rw [List.append_nil] at hb2
  refine wpAny_call (make_map (f := f) I.kIn M.makes M.init (beq_iff_eq.mp M.fn) (codeAny_mono (F.run _ X.stack _ _ ⟨Value.ref (s.heap.objs.size + 1) :: us, []⟩ (Value.ref (s.heap.objs.size + 1) :: us) _ _ (E σ) (hr.make C us [])
    (I2.env0.make C us []) hb2 r2 hq) fun r s' hq' => ?_))
  cases r with
  | error e => exact hx pins σ _ _ e s' I2 hq'
  | ok fl =>
    cases fl with
    | ret u =>
      obtain ⟨v, H', I3, rv, ev, q3⟩ := I2.after hq'
      subst ev
      exact ⟨rv, ⟨V.ref (s.heap.objs.size + 1), H', I3, rfl, q3⟩⟩
    | next => exact False.elim hq'
    | brk => exact False.elim hq'
    | cont => exact False.elim hq'
theorem pe_mk (D : MakeOk X.prog X.w X.K X.mg X.base k C ps sp) (hm : X.mg x = some (.ref C)) (hr : Room (k + 1) X.A) (hx : ∀ σ, PassesAt (L2.CX X.prog X.w) X σ (E σ)) (ha : PA X (e :: es) t) (hg : Gl X x := by rfl)
    (hdb : (x == ("__debug__" : Str)) = false := by decide) (he : starEach (e :: es) X.env = (false, eval e X.env) :: starEach es X.env := by rfl) (hpl : (backTo pos (starEach es X.env)).any (·.1) = false := by rfl) :
    PE X (.Call (.Name x p) (e :: es) [] pos) (tMk C sp E t) := by
  obtain ⟨f, M, D⟩ := D
  refine ⟨fun pins s σ H Q I h => ?_⟩
  refine wpAny_Call_Name_kw (ld_glob I hg hm ?_ hdb)
  refine PySem.W.callWith_K (h₀ := X.base) I.ok.mod.kin M.kp (thn (ha.run pos pins s σ H _ I h) fun us s1 ⟨vs, H1, I1, r, q⟩ => ⟨I1.kIn, ?_⟩) he hpl
  exact run_mk M D hr (fun pins σ H s e s' I c => hx σ pins H s e s' I c) I1 r q
theorem pe_mk0 (D : MakeOk X.prog X.w X.K X.mg X.base k C ps sp) (hm : X.mg x = some (.ref C)) (hr : Room (k + 1) X.A) (hx : ∀ σ, PassesAt (L2.CX X.prog X.w) X σ (E σ)) (hg : Gl X x := by rfl)
    (hdb : (x == ("__debug__" : Str)) = false := by decide) : PE X (.Call (.Name x p) [] [] pos) (tMk C sp E tNil) := by
  obtain ⟨f, M, D⟩ := D
  refine ⟨fun pins s σ H Q I h => ?_⟩
  refine wpAny_Call_Name_kw (ld_glob I hg hm ?_ hdb)
  exact PySem.W.callWith_K0 I.kIn M.kp (run_mk (us := []) M D hr (fun pins σ H s e s' I c => hx σ pins H s e s' I c) I .nil h)
end
end Flow

/-! errors of our own with fields, except clauses with and without names, index in a tuple of ints -/
namespace Flow
open PySem PySem.Spec PyProof.Rows L2
def oexB (K : PySem.W.Frag) (C : Addr) : Bool := (match K.lookup C with
  | some ⟨.type "type", _, .cls cd, sl⟩ => (match cd.mro, sl.toList with
    | .ref C' :: bm, [_, _, _, _, some (.builtin n), _] => C' == C && n == "ValueError.__new__" && !cd.hasDel && cd.hasDict && PySem.HandSPX.refsVE bm
    | _, _ => false)
  | _ => false) && decide (PySem.W.findIn K (.ref C) "__setattr__" = some (some (.builtin "object.__setattr__"))) && decide (PySem.W.subIn K (.ref C) (.type "BaseException") = some true) && decide (PySem.W.typeIn K (.ref C) = some (.type "type")) && PySem.W.keepIn K (.ref C)
theorem oexB_ok {K : PySem.W.Frag} {C : Addr} (h : oexB K C = true) : OexC K C := by
  unfold oexB at h
  simp only [Bool.and_eq_true, decide_eq_true_eq] at h
  obtain ⟨⟨⟨⟨q, h2⟩, h3⟩, h4⟩, h5⟩ := h
  refine ⟨?_, h2, h3, h4, h5⟩
  split at q
  · rename_i dd cd sl ho
    split at q
    · rename_i C' bm k0 k1 k2 k3 n k5 hm hs
      simp only [Bool.and_eq_true, beq_iff_eq, Bool.not_eq_true'] at q
      obtain ⟨⟨⟨⟨rfl, rfl⟩, hdel⟩, hdi⟩, ht⟩ := q
      obtain ⟨nm, bs, mro, ns, qn, hd, sn, sub, ab, col, del⟩ := cd
      dsimp only at hm hdel hdi ht
      subst hm hdel hdi
      have hsl : sl = #[k0, k1, k2, k3, some (.builtin "ValueError.__new__"), k5] := by
        obtain ⟨l⟩ := sl
        simp only at hs
        rw [hs]
      subst hsl
      exact ⟨nm, qn, ns, bs, bm, sn, sub, ab, col, dd, k0, k1, k2, k3, k5, ho, ht⟩
    · cases q
  · cases q

/-! ### several except clauses, with and without a name -/
inductive Clause where
  | bare (c : Value) (ts : Addr → Value → Option Addr → TS)
  | named (i : Nat) (c : Value) (ts : Addr → Value → Option Addr → TS)
def wEach (K : PySem.W.Frag) (Wout : WX) (D : Ends) : List Clause → WX
  | [] => Wout
  | .bare c ts :: r => fun cls d σ H => ∃ b, PySem.W.exmOne K cls c = some b ∧ (b = true → ∀ a, H a = none → ts a cls d D σ H) ∧ (b = false → wEach K Wout D r cls d σ H)
  | .named i c ts :: r => fun cls d σ H => ∃ b, PySem.W.exmOne K cls c = some b ∧
      (b = true → ∀ a, H a = none → ts a cls d { nx := fun σ' H' => D.nx (σ'.set i none) H', rt := D.rt, bk := fun σ' H' => D.bk (σ'.set i none) H', ct := fun σ' H' => D.ct (σ'.set i none) H' } (σ.set i (some (.ref a))) H) ∧
      (b = false → wEach K Wout D r cls d σ H)
inductive Clauses (X : Cx) : List ExceptHandler → List Clause → Prop
  | nil : Clauses X [] []
  | bare {x : Str} {c : Value} {ts : Addr → Value → Option Addr → TS} {b₀ : Stmt} {suite : List Stmt} {np pos' : Pos} {hds : List ExceptHandler} {l : List Clause} (hc : Names X x c)
      (hsu : ∀ (a : Addr) (oe : Obj) (cls : Value) (d : Option Addr) (pn : List (Addr × Obj)), Zc cls d oe → (∃ vs, oe.data = .fields vs) → PSs (X.suite a ((a, oe) :: pn)) (b₀ :: suite) (ts a cls d)) (r : Clauses X hds l) :
      Clauses X (.ExceptHandler (some (.Name x np)) none (b₀ :: suite) pos' :: hds) (.bare c ts :: l)
  | named {x n : Str} {i : Nat} {c : Value} {ts : Addr → Value → Option Addr → TS} {b₀ : Stmt} {suite : List Stmt} {np pos' : Pos} {hds : List ExceptHandler} {l : List Clause} (hN : X.N.Nodup) (hi : X.N[i]? = some n) (hln : X.env.kindOf n = some .local) (hc : Names X x c)
      (hsu : ∀ (a : Addr) (oe : Obj) (cls : Value) (d : Option Addr) (pn : List (Addr × Obj)), Zc cls d oe → (∃ vs, oe.data = .fields vs) → PSs (X.suite a ((a, oe) :: pn)) (b₀ :: suite) (ts a cls d)) (r : Clauses X hds l) :
      Clauses X (.ExceptHandler (some (.Name x np)) (some n) (b₀ :: suite) pos' :: hds) (.named i c ts :: l)
section
variable {X : Cx} {body : List Stmt} {h₀ : ExceptHandler} {hds : List ExceptHandler} {l : List Clause} {pos : Pos} {tb : WX → TS} {Wout : WX}
theorem ps_try_each (hs : X.stack = X.env :: X.outer) (hf : X.env.frame = some X.env.locals) (tk : Takes X Wout)
    (hb : ∀ (W : WX) (pn : List (Addr × Obj)) (xe : Value → Shared → Prop), Takes (X.tr pn xe) W → PassesOwn (model X.prog X.w) X.A X.env xe → PSs (X.tr pn xe) body (tb W))
    (hh : Clauses X (h₀ :: hds) l) : PS X (.Try body (h₀ :: hds) [] [] pos) (fun D σ H => tb (wEach X.K Wout D l) D σ H) := by
  refine ⟨fun pins s σ H D I h => ?_⟩
  have ok := I.ok
  have hfr : X.A.frames = some (X.env :: X.outer) := by rw [ok.frames, hs]
  refine wpAny_Try_except ?_
  refine wpAny_mono ((hb (wEach X.K Wout D l) (X.pn ++ pins) (fun e s₁ => wpAny (model X.prog X.w) X.A (noteFrame e X.env) (fun _ s₂ => wpAny (model X.prog X.w) X.A (setFlight e none) (fun _ s₃ =>
    wpAny (model X.prog X.w) X.A (handleBy e X.env (h₀ :: hds)) (SP X pins D) X.xe s₃) X.xe s₂) X.xe s₁) (fun u s' xx => ?_) PassesOwn.looking).run [] s σ H D (I.toTry _) h) (fun f s1 hsp => ?_) (fun e s1 he => he)
  · -- the catch
    obtain ⟨a, B, sI, pins', σ', H', cls, d, rfl, J', nb, up, sky, na, os, ag, w⟩ := xx
    have J : Inv X pins σ' H' sI := J'.ofTry ok
    have sky' : Sky B (X.env :: X.outer) a (Zc cls d) X.env.locals s'.heap := by rw [← hs]; exact sky
    show wpAny (model X.prog X.w) X.A (noteFrame (.ref a) X.env) _ _ _
    refine Sky.land Zc.steady hfr hf sky' fun h3 fl3 up3 => ?_
    have J3 : Inv X pins σ' H' { s' with heap := h3 } := J.landed nb fl3.1 (up.trans up3) os ag
    obtain ⟨oe3, vs3, he3, hz3, hd3⟩ := fl3.there
    have notFr : ∀ {h : Heap} {o : Obj} {vs : Array Value}, h.FunFrames B (X.env :: X.outer) → h.get? a = some o → o.data = .fields vs → a ∉ frs (X.env :: X.outer) := fun {h o vs} ff e dd hm => by
      obtain ⟨_, o', e', hnf⟩ := ff.mem hm
      rw [e] at e'; cases e'
      exact hnf _ dd
    have nfr := notFr fl3.2.2.1 he3 hd3
    have nL : a ≠ X.env.locals := fun z => nfr (List.mem_filterMap.mpr ⟨X.env, List.mem_cons_self, by rw [hf, z]⟩)
    have nF : a ∉ X.fs := fun hm => by
      obtain ⟨e, he, q⟩ := List.mem_filterMap.mp hm
      exact nfr (List.mem_filterMap.mpr ⟨e, List.mem_cons_of_mem _ he, q⟩)
    have S3 := J3.suite he3 hd3 na nL nF
    have go : ∀ {hds' : List ExceptHandler} {l' : List Clause}, Clauses X hds' l' → wEach X.K Wout D l' cls d σ' H' →
        wpAny (model X.prog X.w) X.A (handleBy (.ref a) X.env hds') (SP X pins D) X.xe { s' with heap := h3 } := by
      intro hds' l' hk
      induction hk with
      | nil =>
        intro w
        refine wpAny_handleBy_nil ?_
        obtain ⟨k1, k2, k3, oe, vs, T, oT, ts', he, hz, hd, h1, hr⟩ := id fl3
        unfold PySem.passOn
        refine wpAny_bind (wpAny_field he hd h1 ?_)
        rw [if_neg (show ¬ ((Value.ref T == Value.none) = true) from by simp)]
        have fin : wpAny (model X.prog X.w) X.A (setFlight (.ref a) X.env.frame) (fun _ s4 => wpAny (model X.prog X.w) X.A (throw (.ref a) : Sem Flow) (SP X pins D) X.xe s4) X.xe { s' with heap := h3 } := by
          rw [hf]
          refine HandSPX.setFlight_upZ fl3 fun h4 hh4 up4 => wpAny_throw (tk _ _ ?_)
          exact ⟨a, B, sI, pins, σ', H', cls, d, rfl, J, nb, (up.trans up3).trans up4, .inr (.inr (by rw [hs]; exact hh4)), na, os, ag, w⟩
        first
          | exact wpAny_bind (wpAny_pure (wpAny_bind fin))
          | exact wpAny_bind fin
      | @bare x c ts b₀ suite np pos' hds2 l2 hc hsu r ih =>
        intro w
        obtain ⟨b, hb1, hyes, hno⟩ := w
        refine wpAny_handleBy_cons (codeAny_handlers_test ?_) (by intro q; cases q)
        have LT : PySem.W.Looks (model X.prog X.w) h3 (typeOf (.ref a)) cls := fun A Q E s k q => wpAny_typeOf_ref (k _ _ he3) (by rw [hz3.1]; exact q)
        have LM := PySem.W.exm_one (M := model X.prog X.w) (J3.kIn) LT hb1
        have test : ∀ {Q : Value → Shared → Prop} {E : Value → Shared → Prop}, Q c { s' with heap := h3 } → wpAny (model X.prog X.w) (X.A.mark (some (.ref a))) (eval (.Name x np) X.env) Q E { s' with heap := h3 } := fun {Q E} q => by
          obtain ⟨hg, hdbg, hm | ⟨hm, hv, hnn⟩⟩ := hc
          · exact ld_glob (X := X.suite a ((a, oe3) :: (X.pn ++ pins))) S3 hg hm q hdbg
          · exact ld_blt (X := X.suite a ((a, oe3) :: (X.pn ++ pins))) S3 hg hm hv q hnn hdbg
        refine test (LM.here ?_)
        cases b with
        | true =>
          refine codeAny_handlers_suite ?_
          refine HandSPX.lands_againZ fl3 fun h4 fl4 up4 => ?_
          have J4 : Inv X pins σ' H' { s' with heap := h4 } := J.landed nb fl4.1 ((up.trans up3).trans up4) os ag
          obtain ⟨oe4, vs4, he4, hz4, hd4⟩ := fl4.there
          have S4 := J4.suite he4 hd4 na nL nF
          refine wpAny_mono ((hsu a oe4 cls d (X.pn ++ pins) hz4 ⟨_, hd4⟩).run [] _ _ H' _ S4 (hyes rfl a na)) (fun f s6 hsp => ?_) (fun _ _ z => False.elim z)
          cases f with
          | next =>
            obtain ⟨σ6, H6, S6, q6⟩ := hsp
            exact ⟨_, _, S6.unsuite ok, q6⟩
          | brk =>
            obtain ⟨σ6, H6, S6, q6⟩ := hsp
            exact ⟨_, _, S6.unsuite ok, q6⟩
          | cont =>
            obtain ⟨σ6, H6, S6, q6⟩ := hsp
            exact ⟨_, _, S6.unsuite ok, q6⟩
          | ret u =>
            obtain ⟨v6, σ6, H6, S6, r6, q6⟩ := hsp
            exact ⟨_, _, _, S6.unsuite ok, r6, q6⟩
        | false =>
          show wpAny _ X.A (handleBy (.ref a) X.env hds2) _ _ _
          exact ih (hno rfl)
      | @named x n i c ts b₀ suite np pos' hds2 l2 hN hi hln hc hsu r ih =>
        intro w
        have hloc : Loc X.env.scope n := .inl hln
        obtain ⟨b, hb1, hyes, hno⟩ := w
        refine wpAny_handleBy_cons (codeAny_handlers_test ?_) (by intro q; cases q)
        have LT : PySem.W.Looks (model X.prog X.w) h3 (typeOf (.ref a)) cls := fun A Q E s k q => wpAny_typeOf_ref (k _ _ he3) (by rw [hz3.1]; exact q)
        have LM := PySem.W.exm_one (M := model X.prog X.w) (J3.kIn) LT hb1
        have test : ∀ {Q : Value → Shared → Prop} {E : Value → Shared → Prop}, Q c { s' with heap := h3 } → wpAny (model X.prog X.w) (X.A.mark (some (.ref a))) (eval (.Name x np) X.env) Q E { s' with heap := h3 } := fun {Q E} q => by
          obtain ⟨hg, hdbg, hm | ⟨hm, hv, hnn⟩⟩ := hc
          · exact ld_glob (X := X.suite a ((a, oe3) :: (X.pn ++ pins))) S3 hg hm q hdbg
          · exact ld_blt (X := X.suite a ((a, oe3) :: (X.pn ++ pins))) S3 hg hm hv q hnn hdbg
        refine test (LM.here ?_)
        cases b with
        | true =>
          refine codeAny_handlers_suite_as ?_
          refine HandSPX.lands_againZ fl3 fun h4 fl4 up4 => ?_
          have J4 : Inv X pins σ' H' { s' with heap := h4 } := J.landed nb fl4.1 ((up.trans up3).trans up4) os ag
          obtain ⟨oe4, vs4, he4, hz4, hd4⟩ := fl4.there
          have S4 := J4.suite he4 hd4 na nL nF
          refine store_ok (X := X.suite a ((a, oe4) :: (X.pn ++ pins))) (v := .ref a) S4 hN hi hloc rfl (fun s5 S5 => ?_) (.inr hln)
          refine wpAny_mono ((hsu a oe4 cls d (X.pn ++ pins) hz4 ⟨_, hd4⟩).run [] s5 _ H' _ S5 (hyes rfl a na)) (fun f s6 hsp => ?_) (fun _ _ z => False.elim z)
          have end_ : ∀ {σ6 : L2.St} {H6 : Hp} {Q : Shared → Prop}, Inv (X.suite a ((a, oe4) :: (X.pn ++ pins))) [] σ6 H6 s6 → (∀ s7, Inv X pins (σ6.set i none) H6 s7 → Q s7) →
              wpAny (model X.prog X.w) X.A (do bindName X.env n .none; unbindBehindTheSuite X.env n pos') (fun _ s7 => Q s7) X.xe s6 := fun {σ6 H6 Q} S6 hq => gone_ok (S6.unsuite ok) hN hi hln hq
          cases f with
          | next =>
            obtain ⟨σ6, H6, S6, q6⟩ := hsp
            exact end_ S6 fun s7 J7 => ⟨_, _, J7, q6⟩
          | brk =>
            obtain ⟨σ6, H6, S6, q6⟩ := hsp
            exact end_ S6 fun s7 J7 => ⟨_, _, J7, q6⟩
          | cont =>
            obtain ⟨σ6, H6, S6, q6⟩ := hsp
            exact end_ S6 fun s7 J7 => ⟨_, _, J7, q6⟩
          | ret u =>
            obtain ⟨v6, σ6, H6, S6, r6, q6⟩ := hsp
            exact end_ S6 fun s7 J7 => ⟨_, _, _, J7, r6, q6⟩
        | false =>
          show wpAny _ X.A (handleBy (.ref a) X.env hds2) _ _ _
          exact ih (hno rfl)
    exact go hh w
  · cases f with
    | next =>
      obtain ⟨σ', H', J', q⟩ := hsp
      exact wpAny_execs_nil ⟨σ', H', J'.ofTry ok, q⟩
    | brk =>
      obtain ⟨σ', H', J', q⟩ := hsp
      exact ⟨σ', H', J'.ofTry ok, q⟩
    | cont =>
      obtain ⟨σ', H', J', q⟩ := hsp
      exact ⟨σ', H', J'.ofTry ok, q⟩
    | ret u =>
      obtain ⟨v, σ', H', J', r, q⟩ := hsp
      exact ⟨v, σ', H', J'.ofTry ok, r, q⟩
end

/-! ### t.index(x), t a tuple of ints -/
section
variable {X : Cx}
def rTupIx (K : PySem.W.Frag) : V → List V → Hp → VK → Prop := fun x xs H Q => ∃ p, ∃ ys : List Int, ∃ z j, x = .ref p ∧ xs = [.int z] ∧ SqT K H p (ys.map V.int) ∧ ys[j]? = some z ∧ (∀ m, m < j → ys[m]? ≠ some z) ∧ Q (.int (j : Nat)) H
theorem flat_ints (ys : List Int) : (ys.map V.int).all flatV = true := by
  rw [List.all_map]
  exact List.all_eq_true.mpr fun _ _ => rfl
theorem mt_tupIx : MtR X "tuple.index" (rTupIx X.K) := by
  intro pins s σ H x xs v us Q I rx rs h
  obtain ⟨p, ys, z, j, rfl, rfl, hq, hy, hno, q⟩ := h
  cases rx
  obtain ⟨u, rfl, t, rfl⟩ := vals1 rs
  obtain ⟨its, r, pl, hz⟩ := I.tuple hq
  obtain ⟨⟨cls, dd, dt, sl⟩, ho, hc, n, hd⟩ := pl
  simp only at hc hd
  subst hc
  subst hd
  have hl : its.toArray.size = ys.length := by rw [List.size_toArray, ← r.length, List.length_map]
  have hj : j < its.toArray.size := by rw [hl]; exact (List.getElem?_eq_some_iff.mp hy).1
  have at' : ∀ (m : Nat) (hm : m < its.toArray.size), ∃ y t', ys[m]? = some y ∧ its.toArray[m] = Value.int y t' := fun m hm => by
    have hm' : m < ys.length := by rw [← hl]; exact hm
    obtain ⟨w, hw, t', hw'⟩ := r.get (i := m) (x := .int ys[m]) (by simp [hm'])
    refine ⟨ys[m], t', List.getElem?_eq_getElem hm', ?_⟩
    have e := (List.getElem?_eq_some_iff.mp hw).2
    rw [← hw', ← e]
    simp
  refine call_meets PySem.F.slot_tuple_index ⟨_, ho, rfl⟩ PySem.F.entry_tuple_index (PySem.F.args_tuple_index_2 _ _) (TI.tuple_indexAt p its.toArray n dd sl (.int z t) (eqU (.int z)) j hj ?_ ?_)
    ⟨ho, fun w hw => mem_eqAt (x := .int z) ⟨t, rfl⟩ rfl r (flat_ints ys) w (by simpa using hw), ⟨.int (j : Nat), H, I.tok _, ⟨_, rfl⟩, q⟩⟩
  · obtain ⟨y, t', h1, h2⟩ := at' j hj
    rw [hy] at h1
    cases h1
    rw [h2]
    show (z == z) = true
    exact beq_self_eq_true z
  · intro m hm hmj
    obtain ⟨y, t', h1, h2⟩ := at' m hm
    rw [h2]
    show (y == z) = false
    exact beq_eq_false_iff_ne.mpr fun e => hno m hmj (e ▸ h1)
end
end Flow

/-! steps of readings; a word of one's own, "x", that takes them -/
namespace Flow
open PySem PySem.Spec PyProof.Rows L2
/-! ### built-ins by names of our own -/
def rLen (K : PySem.W.Frag) : List V → Hp → VK → Prop := fun xs H Q => ∃ p ys, xs = [.ref p] ∧ (SqL K H p ys ∨ SqT K H p ys) ∧ Q (.int ys.length) H
def rListOf (K : PySem.W.Frag) : List V → Hp → VK → Prop := fun xs H Q => ∃ p ys, xs = [.ref p] ∧ (SqL K H p ys ∨ SqT K H p ys) ∧ ∀ l, H l = none → Q (.ref l) (upd H l (.lst ys))
def rTupleOf (K : PySem.W.Frag) : List V → Hp → VK → Prop := fun xs H Q => ∃ p ys, xs = [.ref p] ∧ ((SqL K H p ys ∧ ∀ l, H l = none → Q (.ref l) (upd H l (.tup ys))) ∨ (SqT K H p ys ∧ Q (.ref p) H))
def rMax2 : List V → Hp → VK → Prop := fun xs H Q => ∃ i j, xs = [.int i, .int j] ∧ Q (.int (if j > i then j else i)) H
def rMin2 : List V → Hp → VK → Prop := fun xs H Q => ∃ i j, xs = [.int i, .int j] ∧ Q (.int (if j < i then j else i)) H
def rInt1 : List V → Hp → VK → Prop := fun xs H Q => (∃ i, xs = [.int i] ∧ Q (.int i) H) ∨ ∃ k, xs = [.bl k] ∧ Q (.int (if k then 1 else 0)) H
def rInsert : V → List V → Hp → VK → Prop := fun x vs H Q => ∃ (l : Addr) (xs : List V) (i : Int) (y : V), x = .ref l ∧ vs = [.int i, y] ∧ H l = some (.lst xs) ∧ xs.length < sizeLine ∧ 0 ≤ i ∧ i < 2 ^ 63 ∧
    Q .non (upd H l (.lst (xs.take i.toNat ++ [y] ++ xs.drop i.toNat)))
def rIsN : R2 := fun x y H Q => y = .non ∧ Q (.bl (decide (x = .non))) H
def rNotN : R2 := fun x y H Q => y = .non ∧ Q (.bl (!decide (x = .non))) H
section
variable {X : Cx}
theorem call_lenS : CallR X (.builtin "len") (rLen X.K) := call_len_seq
theorem call_listS : CallR X (.type "list") (rListOf X.K) := call_list_of
theorem call_tupleS : CallR X (.type "tuple") (rTupleOf X.K) := call_tuple_of
theorem call_max2S (hc : X.calm = true) : CallR X (.builtin "max") rMax2 := call_max2 hc
theorem call_min2S (hc : X.calm = true) : CallR X (.builtin "min") rMin2 := call_min2 hc
theorem call_intS : CallR X (.type "int") rInt1 := call_int1
theorem mt_insertS : MtR X "list.insert" rInsert := mt_insert
theorem op_isNS : OpR X (compareOp .Is) rIsN := op_isN
theorem op_notNS : OpR X (compareOp .IsNot) rNotN := op_notN
theorem pe_ci {x : Str} {i : Int} {pos : Pos} (hm : ∃ t, X.mg x = some (.int i t)) (hg : Gl X x := by rfl) (hd : (x == ("__debug__" : Str)) = false := by decide) : PE X (.Name x pos) (tC (.int i)) := by
  obtain ⟨t, hm⟩ := hm
  exact pe_glob hg hm ⟨t, rfl⟩ hd
theorem pe_gr {x : Str} {a : Addr} {pos : Pos} (hm : X.mg x = some (.ref a)) (hg : Gl X x := by rfl) (hd : (x == ("__debug__" : Str)) = false := by decide) : PE X (.Name x pos) (tC (.ref a)) := pe_glob hg hm rfl hd
/-- a value's truth -/
def rTru (K : PySem.W.Frag) : V → Hp → (Bool → Hp → Prop) → Prop := fun x H Q => ∃ k, TruV K x H k ∧ Q k H
def tTru (K : PySem.W.Frag) (ta : TE) : TT := fun σ H Q => ta σ H fun x H1 => rTru K x H1 Q
theorem pt_truthS {a : Expr} {ta : TE} (ha : PE X a ta) (he : ∀ whole, isTrue a X.env whole = (do let v ← whole; standAt a.pos; holding [v] (truthy v))) : PT X a (tTru X.K ta) := pt_truth ha he
end

/-! ### pieces of readings by names of our own -/
section
variable {K : PySem.W.Frag} {σ : L2.St} {H : Hp} {ta tb te tv : TE} {t u c : TT} {i j : Nat} {v x y : V} {r : R2} {Q : VK} {B : Bool → Hp → Prop} {D : Ends} {t1 t2 : TS} {f : Str} {a C dx p l : Addr} {fs fs' : List (Str × V)} {vs xs ys : List V} {m n : Int}
def rFld (K : PySem.W.Frag) (f : Str) : V → Hp → VK → Prop := fun x H1 Q => ∃ a C dx fs v, x = .ref a ∧ H1 a = some (.ins C dx fs) ∧ Cls K C ∧ NoAttr K C f ∧ fs.lookup f = some v ∧ Q v H1
def rSFld (K : PySem.W.Frag) (f : Str) (y : V) : V → Hp → (Hp → Prop) → Prop := fun x H2 Q => ∃ a C dx fs, x = .ref a ∧ H2 a = some (.ins C dx fs) ∧ Cls K C ∧ NoAttr K C f ∧ fs.length < 1000 ∧ Q (upd H2 a (.ins C dx (putF f y fs)))
def rBl : V → Hp → (Bool → Hp → Prop) → Prop := fun x H Q => ∃ k, x = .bl k ∧ Q k H
def rBV : V → Hp → (Bool → Hp → Prop) → Prop := fun x H Q => ∃ c, x = .bl c ∧ Q c H
def rLst : List V → Hp → VK → Prop := fun xs H Q => xs.length ≤ sizeLine ∧ ∀ p, H p = none → Q (.ref p) (upd H p (.lst xs))
def rTup : List V → Hp → VK → Prop := fun xs H Q => xs.length ≤ sizeLine ∧ ∀ p, H p = none → Q (.ref p) (upd H p (.tup xs))
def rPart : V → Hp → (Option Int → Hp → Prop) → Prop := fun x H Q => ∃ i, x = .int i ∧ Q (some i) H
theorem x_var (h : σ[i]? = some (some v)) (q : Q v H) : tVar i σ H Q := ⟨v, h, q⟩
theorem x_c (q : Q v H) : tC v σ H Q := q
theorem x_op (q : ta σ H fun x H1 => tb σ H1 fun y H2 => r x y H2 Q) : tOp r ta tb σ H Q := q
theorem x_un {r : V → Hp → VK → Prop} (q : ta σ H fun x H1 => r x H1 Q) : tUn r ta σ H Q := q
theorem x_rI0 {g : Int → Int → V} (q : Q (g m n) H) : rI0 g (.int m) (.int n) H Q := ⟨m, n, rfl, rfl, q⟩
theorem x_rI {C : Int → Int → Prop} {g : Int → Int → V} (hc : C m n) (q : Q (g m n) H) : rI C g (.int m) (.int n) H Q := ⟨m, n, rfl, rfl, hc, q⟩
theorem x_rU {g : Int → V} (q : Q (g m) H) : rU g (.int m) H Q := ⟨m, rfl, q⟩
theorem dec_int (m n : Int) : decide (V.int m = V.int n) = decide (m = n) := by
  by_cases h : m = n
  · rw [h, decide_eq_true rfl, decide_eq_true rfl]
  · rw [decide_eq_false h, decide_eq_false (fun e => h (V.int.inj e))]
theorem dec_str (m n : Str) : decide (V.str m = V.str n) = decide (m = n) := by
  by_cases h : m = n
  · rw [h, decide_eq_true rfl, decide_eq_true rfl]
  · rw [decide_eq_false h, decide_eq_false (fun e => h (V.str.inj e))]
theorem x_eqI (q : Q (.bl (decide (m = n))) H) : rEq (.int m) (.int n) H Q := ⟨rfl, by rw [dec_int]; exact q⟩
theorem x_neI (q : Q (.bl (!decide (m = n))) H) : rNe (.int m) (.int n) H Q := ⟨rfl, by rw [dec_int]; exact q⟩
theorem x_eqS {m n : Str} (q : Q (.bl (decide (m = n))) H) : rEq (.str m) (.str n) H Q := ⟨rfl, by rw [dec_str]; exact q⟩
theorem x_neS {m n : Str} (q : Q (.bl (!decide (m = n))) H) : rNe (.str m) (.str n) H Q := ⟨rfl, by rw [dec_str]; exact q⟩
theorem x_isN (q : Q (.bl (decide (x = .non))) H) : rIsN x .non H Q := ⟨rfl, q⟩
theorem x_notN (q : Q (.bl (!decide (x = .non))) H) : rNotN x .non H Q := ⟨rfl, q⟩
theorem x_fld (q : ta σ H fun x H1 => rFld K f x H1 Q) : tFld K ta f σ H Q := q
theorem x_rFld (h : H a = some (.ins C dx fs)) (c : Cls K C) (n : NoAttr K C f) (l : fs.lookup f = some v) (q : Q v H) : rFld K f (.ref a) H Q := ⟨a, C, dx, fs, v, rfl, h, c, n, l, q⟩
theorem x_sFld (q : tv σ H fun y H1 => ta σ H1 fun x H2 => rSFld K f y x H2 (D.nx σ)) : sFld K ta tv f D σ H := q
theorem x_rSFld {Q : Hp → Prop} (h : H a = some (.ins C dx fs)) (c : Cls K C) (n : NoAttr K C f) (hl : fs.length < 1000) (e : putF f y fs = fs') (q : Q (upd H a (.ins C dx fs'))) : rSFld K f y (.ref a) H Q := by
  subst e
  exact ⟨a, C, dx, fs, rfl, h, c, n, hl, q⟩
theorem x_test (q : te σ H fun x H1 => rBl x H1 B) : tTest te σ H B := q
theorem x_B (q : te σ H fun x H1 => rBV x H1 B) : tB te σ H B := q
theorem x_rBl {b : Bool} (q : B b H) : rBl (.bl b) H B := ⟨b, rfl, q⟩
theorem x_rBV {b : Bool} (q : B b H) : rBV (.bl b) H B := ⟨b, rfl, q⟩
theorem x_tru (q : ta σ H fun x H1 => rTru K x H1 B) : tTru K ta σ H B := q
theorem x_and (q : t σ H fun c H1 => if c = true then u σ H1 B else B false H1) : tAnd t u σ H B := q
theorem x_or (q : t σ H fun c H1 => if c = true then B true H1 else u σ H1 B) : tOr t u σ H B := q
theorem x_not (q : t σ H fun c H1 => B (!c) H1) : tNot t σ H B := q
def rAndV (tb : TE) (σ : L2.St) : V → Hp → VK → Prop := fun x H1 Q => ∃ c, x = .bl c ∧ if c = true then tb σ H1 Q else Q (.bl false) H1
def rOrV (tb : TE) (σ : L2.St) : V → Hp → VK → Prop := fun x H1 Q => ∃ c, x = .bl c ∧ if c = true then Q (.bl true) H1 else tb σ H1 Q
def rNotV : V → Hp → VK → Prop := fun x H1 Q => ∃ c, x = .bl c ∧ Q (.bl (!c)) H1
theorem x_andV (q : ta σ H fun x H1 => rAndV tb σ x H1 Q) : tAndV ta tb σ H Q := q
theorem x_orV (q : ta σ H fun x H1 => rOrV tb σ x H1 Q) : tOrV ta tb σ H Q := q
theorem x_notV (q : ta σ H fun x H1 => rNotV x H1 Q) : tNotV ta σ H Q := q
theorem x_rAndV {b : Bool} (q : if b = true then tb σ H Q else Q (.bl false) H) : rAndV tb σ (.bl b) H Q := ⟨b, rfl, q⟩
theorem x_rOrV {b : Bool} (q : if b = true then Q (.bl true) H else tb σ H Q) : rOrV tb σ (.bl b) H Q := ⟨b, rfl, q⟩
theorem x_rNotV {b : Bool} (q : Q (.bl (!b)) H) : rNotV (.bl b) H Q := ⟨b, rfl, q⟩
theorem x_if (q : t σ H fun c H1 => if c = true then ta σ H1 Q else tb σ H1 Q) : tIf t ta tb σ H Q := q
def rChain (r' : R2) (tc : TE) (σ : L2.St) (y : V) : V → Hp → VK → Prop := fun z H3 Q => ∃ k, z = .bl k ∧ if k = true then tc σ H3 fun w H4 => r' y w H4 Q else Q (.bl false) H3
theorem x_chain {r' : R2} {tc : TE} (q : ta σ H fun x H1 => tb σ H1 fun y H2 => r x y H2 fun z H3 => rChain r' tc σ y z H3 Q) : tChain r r' ta tb tc σ H Q := q
theorem x_rChain {r' : R2} {tc : TE} {b : Bool} (q : if b = true then tc σ H fun w H4 => r' y w H4 Q else Q (.bl false) H) : rChain r' tc σ y (.bl b) H Q := ⟨b, rfl, q⟩
theorem x_nil {Q : List V → Hp → Prop} (q : Q [] H) : tNil σ H Q := q
theorem x_cons {tr : TA} {Q : List V → Hp → Prop} (q : ta σ H fun x H1 => tr σ H1 fun xs H2 => Q (x :: xs) H2) : tCons ta tr σ H Q := q
theorem x_lst {t : TA} (q : t σ H fun xs H1 => rLst xs H1 Q) : tLst t σ H Q := q
theorem x_tup {t : TA} (q : t σ H fun xs H1 => rTup xs H1 Q) : tTup t σ H Q := q
theorem x_rLst (hl : vs.length ≤ sizeLine) (q : ∀ p, H p = none → Q (.ref p) (upd H p (.lst vs))) : rLst vs H Q := ⟨hl, q⟩
theorem x_rTup (hl : vs.length ≤ sizeLine) (q : ∀ p, H p = none → Q (.ref p) (upd H p (.tup vs))) : rTup vs H Q := ⟨hl, q⟩
theorem x_cb {r : List V → Hp → VK → Prop} {t : TA} (q : t σ H fun vs H1 => r vs H1 Q) : tCB r t σ H Q := q
theorem x_len (h : SqL K H p ys ∨ SqT K H p ys) (q : Q (.int ys.length) H) : rLen K [.ref p] H Q := ⟨p, ys, rfl, h, q⟩
theorem x_listOf (h : SqL K H p ys ∨ SqT K H p ys) (q : ∀ l, H l = none → Q (.ref l) (upd H l (.lst ys))) : rListOf K [.ref p] H Q := ⟨p, ys, rfl, h, q⟩
theorem x_max2 (q : Q (.int (if n > m then n else m)) H) : rMax2 [.int m, .int n] H Q := ⟨m, n, rfl, q⟩
theorem x_min2 (q : Q (.int (if n < m then n else m)) H) : rMin2 [.int m, .int n] H Q := ⟨m, n, rfl, q⟩
def rTy (K : PySem.W.Frag) (T : String) (r : V → List V → Hp → VK → Prop) (t : TA) (σ : L2.St) : V → Hp → VK → Prop := fun x H1 Q => tyV K T x H1 ∧ t σ H1 fun xs H2 => r x xs H2 Q
def rTy0 (K : PySem.W.Frag) (T : String) (r : V → List V → Hp → VK → Prop) : V → Hp → VK → Prop := fun x H1 Q => tyV K T x H1 ∧ r x [] H1 Q
theorem x_bm {T : String} {r : V → List V → Hp → VK → Prop} {t : TA} (q : ta σ H fun x H1 => rTy K T r t σ x H1 Q) : tBM K T r ta t σ H Q := q
theorem x_bm0 {T : String} {r : V → List V → Hp → VK → Prop} (q : ta σ H fun x H1 => rTy0 K T r x H1 Q) : tBM0 K T r ta σ H Q := q
theorem x_tyL {r : V → List V → Hp → VK → Prop} {t : TA} (h : H p = some (.lst xs)) (q : t σ H fun ws H2 => r (.ref p) ws H2 Q) : rTy K "list" r t σ (.ref p) H Q := ⟨.inl ⟨rfl, xs, SqL.of h⟩, q⟩
theorem x_tyL' {r : V → List V → Hp → VK → Prop} {t : TA} (h : SqL K H p xs) (q : t σ H fun ws H2 => r (.ref p) ws H2 Q) : rTy K "list" r t σ (.ref p) H Q := ⟨.inl ⟨rfl, xs, h⟩, q⟩
theorem x_tyL0 {r : V → List V → Hp → VK → Prop} (h : H p = some (.lst xs)) (q : r (.ref p) [] H Q) : rTy0 K "list" r (.ref p) H Q := ⟨.inl ⟨rfl, xs, SqL.of h⟩, q⟩
theorem x_append (h : H l = some (.lst xs)) (hl : xs.length < sizeLine) (q : Q .non (upd H l (.lst (xs ++ [y])))) : rAppend (.ref l) [y] H Q := ⟨l, xs, y, rfl, rfl, h, hl, q⟩
theorem x_extend (h : H l = some (.lst xs)) (h2 : H p = some (.lst ys)) (hl : xs.length + ys.length ≤ sizeLine) (q : Q .non (upd H l (.lst (xs ++ ys)))) : rExtend (.ref l) [.ref p] H Q := ⟨l, p, xs, ys, rfl, rfl, h, h2, hl, q⟩
theorem x_cat (h : H l = some (.lst xs)) (h2 : H p = some (.lst ys)) (hl : xs.length + ys.length ≤ sizeLine) (q : ∀ r, H r = none → Q (.ref r) (upd H r (.lst (xs ++ ys)))) : rCat (.ref l) (.ref p) H Q := ⟨l, p, xs, ys, rfl, rfl, h, h2, hl, q⟩
theorem x_ixL (h : SqL K H p xs) (e : atI xs m = some v) (q : Q v H) : rIxL K (.ref p) (.int m) H Q := ⟨p, xs, m, v, rfl, rfl, h, e, q⟩
theorem x_ixT (h : SqT K H p xs) (e : atI xs m = some v) (q : Q v H) : rIxT K (.ref p) (.int m) H Q := ⟨p, xs, m, v, rfl, rfl, h, e, q⟩
theorem x_sl {r : V → Option Int → Option Int → Hp → VK → Prop} {tl th : TO} (q : te σ H fun x H1 => tl σ H1 fun l H2 => th σ H2 fun u H3 => r x l u H3 Q) : tSl r te tl th σ H Q := q
theorem x_noPart {Q : Option Int → Hp → Prop} (q : Q none H) : tNoPart σ H Q := q
theorem x_part {Q : Option Int → Hp → Prop} (q : te σ H fun x H1 => rPart x H1 Q) : tPart te σ H Q := q
theorem x_rPart {Q : Option Int → Hp → Prop} (q : Q (some m) H) : rPart (.int m) H Q := ⟨m, rfl, q⟩
theorem x_slL {lo hi : Option Int} (h : SqL K H p xs) (q : ∀ l, H l = none → Q (.ref l) (upd H l (.lst (cutV xs lo hi)))) : rSlL K (.ref p) lo hi H Q := ⟨p, xs, rfl, h, q⟩
theorem x_in {neg : Bool} (h : SqL K H p xs ∨ SqT K H p xs) (fx : flatV x = true) (fa : xs.all flatV = true) (q : Q (.bl (if neg then !inV x xs else inV x xs)) H) : rIn K neg x (.ref p) H Q := ⟨p, xs, rfl, h, fx, fa, q⟩
/-! statements -/
theorem x_seq (q : t1 { D with nx := t2 D } σ H) : tSeq t1 t2 D σ H := q
theorem x_next (q : D.nx σ H) : tNext D σ H := q
theorem x_brk (q : D.bk σ H) : tBreak D σ H := q
theorem x_ct (q : D.ct σ H) : tCont D σ H := q
theorem x_drop (q : te σ H fun _ H1 => D.nx σ H1) : tDrop te D σ H := q
theorem x_ret (q : te σ H D.rt) : tRet te D σ H := q
theorem x_retN (q : D.rt .non H) : tRetN D σ H := q
theorem x_ifS (q : c σ H fun b H1 => if b = true then t1 D σ H1 else t2 D σ H1) : tIfS c t1 t2 D σ H := q
theorem x_asg {g : TG} (q : te σ H fun x H1 => g x σ H1 D.nx) : tAsg te g D σ H := q
theorem x_gName {Q : L2.St → Hp → Prop} (q : Q (σ.set i (some v)) H) : gName i v σ H Q := q
/-! calls -/
theorem x_fn {sp : Sp} {E : L2.St → XK} {t : TA} (q : t σ H fun vs H1 => sp vs H1 Q (E σ)) : tFn sp E t σ H Q := q
def rMm (ok : Addr → Prop) (m : Str) (sp : Addr → Sp) (E : XK) (t : TA) (σ : L2.St) : V → Hp → VK → Prop := fun x H1 Q => ∃ a C dx fs, x = .ref a ∧ H1 a = some (.ins C dx fs) ∧ ok C ∧ fs.lookup m = none ∧ t σ H1 fun vs H2 => sp C (x :: vs) H2 Q E
theorem x_mm {ok : Addr → Prop} {m : Str} {sp : Addr → Sp} {E : L2.St → XK} {t : TA} (q : ta σ H fun x H1 => rMm ok m sp (E σ) t σ x H1 Q) : tMm ok m sp E ta t σ H Q := q
theorem x_rMm {ok : Addr → Prop} {m : Str} {sp : Addr → Sp} {E : XK} {t : TA} (h : H a = some (.ins C dx fs)) (hc : ok C) (hl : fs.lookup m = none) (q : t σ H fun vs H2 => sp C (.ref a :: vs) H2 Q E) : rMm ok m sp E t σ (.ref a) H Q :=
  ⟨a, C, dx, fs, rfl, h, hc, hl, q⟩
def rMu (P : Program) (w : World) (K : PySem.W.Frag) (mg : Str → Option Value) (base : Heap) (k : Nat) (m : Str) (ps : List Str) (E : XK) (t : TA) (σ : L2.St) : V → Hp → VK → Prop := fun x H1 Q => ∃ (a C dx : Addr) (fs : List (Str × V)) (sp : Sp), x = .ref a ∧ H1 a = some (.ins C dx fs) ∧
  MethOk P w K mg base k C m ps sp ∧ fs.lookup m = none ∧ t σ H1 fun vs H2 => sp (x :: vs) H2 Q E
theorem x_mu {P : Program} {w : World} {mg : Str → Option Value} {base : Heap} {k : Nat} {m : Str} {ps : List Str} {E : L2.St → XK} {t : TA} (q : ta σ H fun x H1 => rMu P w K mg base k m ps (E σ) t σ x H1 Q) : tMu P w K mg base k m ps E ta t σ H Q := q
theorem x_rMu {P : Program} {w : World} {mg : Str → Option Value} {base : Heap} {k : Nat} {m : Str} {ps : List Str} {E : XK} {t : TA} {sp : Sp} (h : H a = some (.ins C dx fs)) (D : MethOk P w K mg base k C m ps sp) (hl : fs.lookup m = none)
    (q : t σ H fun vs H2 => sp (.ref a :: vs) H2 Q E) : rMu P w K mg base k m ps E t σ (.ref a) H Q := ⟨a, C, dx, fs, sp, rfl, h, D, hl, q⟩
theorem x_mk {sp : Sp} {E : L2.St → XK} {t : TA} (q : t σ H fun vs H1 => ∀ x dx, H1 x = none → H1 dx = none → dx ≠ x → sp (.ref x :: vs) (upd (upd H1 dx (.own x)) x (.ins C dx [])) (fun v H2 => v = .non ∧ Q (.ref x) H2) (E σ)) : tMk C sp E t σ H Q := q
end
/-! ### tests -/
theorem ite_d {p A B : Prop} [Decidable p] (h1 : p → A) (h2 : ¬ p → B) : if decide p = true then A else B := by
  by_cases h : p
  · rw [if_pos (decide_eq_true h)]
    exact h1 h
  · rw [if_neg (by rw [decide_eq_false h]; exact Bool.false_ne_true)]
    exact h2 h
theorem ite_nd {p A B : Prop} [Decidable p] (h1 : ¬ p → A) (h2 : p → B) : if (!decide p) = true then A else B := by
  by_cases h : p
  · rw [decide_eq_true h]
    exact iteF (h2 h)
  · rw [decide_eq_false h]
    exact iteT (h1 h)
theorem ite_b {b : Bool} {A B : Prop} (h1 : b = true → A) (h2 : b = false → B) : if b = true then A else B := by
  cases b with
  | true => exact iteT (h1 rfl)
  | false => exact iteF (h2 rfl)
theorem ite_nb {b : Bool} {A B : Prop} (h1 : b = false → A) (h2 : b = true → B) : if (!b) = true then A else B := by
  cases b with
  | true => exact iteF (h2 rfl)
  | false => exact iteT (h1 rfl)
/-! ### heaps -/
theorem upd_none {H : Hp} {a l : Addr} {o : HO} (h : upd H a o l = none) : l ≠ a ∧ H l = none := by
  by_cases e : l = a
  · rw [e, upd_same] at h
    cases h
  · rw [upd_ne e] at h
    exact ⟨e, h⟩
theorem upd_get {H : Hp} {a b : Addr} {o : HO} {u : Option HO} (h : b ≠ a) (q : H b = u) : upd H a o b = u := (upd_ne h).trans q
theorem sz1 {n : Nat} (h : n ≤ 1000) : n ≤ sizeLine := Nat.le_trans h (by decide)
/-- what changed lies among the given places, or is new -/
structure Only' (S : List Addr) (H H' : Hp) : Prop where
  at_ : ∀ b o, H b = some o → b ∉ S → H' b = some o
  more : ∀ b o, H b = some o → ∃ o', H' b = some o'
instance {S : List Addr} {H H' : Hp} : CoeFun (Only' S H H') (fun _ => ∀ b o, H b = some o → b ∉ S → H' b = some o) := ⟨Only'.at_⟩
theorem Only'.refl {S : List Addr} {H : Hp} : Only' S H H := ⟨fun _ _ h _ => h, fun _ o h => ⟨o, h⟩⟩
theorem Only'.trans {S : List Addr} {H H1 H2 : Hp} (a : Only' S H H1) (b : Only' S H1 H2) : Only' S H H2 := ⟨fun c o h n => b c o (a c o h n) n, fun c o h => by
  obtain ⟨o1, h1⟩ := a.more c o h
  exact b.more c o1 h1⟩
theorem upd_more {H : Hp} {p b : Addr} {o u : HO} (h : H b = some u) : ∃ o', upd H p o b = some o' := by
  by_cases e : b = p
  · exact ⟨o, by rw [e, upd_same]⟩
  · exact ⟨u, upd_get e h⟩
theorem Only'.put {S : List Addr} {H H' : Hp} {p : Addr} {o : HO} (e : Only' S H H') (h : p ∈ S) : Only' S H (upd H' p o) := ⟨fun b u hb n => upd_get (fun z => n (z ▸ h)) (e b u hb n), fun b u hb => by
  obtain ⟨o1, h1⟩ := e.more b u hb
  exact upd_more h1⟩
theorem Only'.mono {S S' : List Addr} {H H' : Hp} (e : Only' S H H') (h : ∀ a, a ∈ S → a ∈ S') : Only' S' H H' := ⟨fun b o hb n => e b o hb fun z => n (h b z), e.more⟩
/-- .. a place that was free may change too -/
theorem Only'.put0 {S : List Addr} {H H' : Hp} {p : Addr} {o : HO} (e : Only' S H H') (h : H p = none) : Only' S H (upd H' p o) := ⟨fun b u hb n => upd_get (ne_of_none hb h) (e b u hb n), fun b u hb => by
  obtain ⟨o1, h1⟩ := e.more b u hb
  exact upd_more h1⟩
/-- what is free behind was free ahead -/
theorem Only'.free {S : List Addr} {H H' : Hp} {r : Addr} (e : Only' S H H') (h : H' r = none) : H r = none := by
  cases z : H r with
  | none => rfl
  | some o =>
    obtain ⟨o', q⟩ := e.more r o z
    rw [h] at q
    cases q
theorem Only'.new {S : List Addr} {H H' : Hp} {p : Addr} {o : HO} (e : Only' S H H') (h : H' p = none) : Only' S H (upd H' p o) := e.put0 (e.free h)
end Flow

/-! the mirror: what the program computes, as plain functions over lists of whole numbers -/
namespace Flow
abbrev Row := List Int
def signsT : List Int := [45, 48, 49, 50, 51, 52, 53, 54, 55, 56, 57, 65, 66, 67, 68, 69, 70, 71, 72, 73, 74, 75, 76, 77, 78, 79, 80, 81, 82, 83, 84, 85, 86, 87, 88, 89, 90, 95, 97, 98, 99, 100, 101, 102, 103, 104, 105, 106, 107, 108, 109, 110, 111, 112, 113, 114, 115, 116, 117, 118, 119, 120, 121, 122]
def powersT : List Int := [1, 2, 4, 8, 16, 32, 64, 128]
/-- the item at a place (0 where there is none) -/
def gI (xs : List Int) (i : Int) : Int := xs.getD i.toNat 0
/-- a byte -/
def By (b : Int) : Prop := 0 ≤ b ∧ b < 256
def Bys (xs : Row) : Prop := ∀ b, b ∈ xs → By b
def marksOf (b : Int) : Row := [b % 256, (b + 1) % 256, (b + 2) % 256, (b + 3) % 256]

/-! ### writers -/
inductive WSt where
  | add (key : Row) (at_ : Int)
  | front (row : Row)
  | esc (b : Int)
  | runs (many byte : Int)
  | chunks (size : Int) (held : Row)
  | checks (size many check : Int)
  | signs (many value : Int)
def nextCheck (check b : Int) : Int := (check * 257 + b + 1) % 65521
def checkBytes (check : Int) : Row := [check / 256, check % 256]
def signOf (i : Int) : Int := gI signsT i
def pow2 (m : Int) : Int := gI powersT m
def takeAdd (key : Row) (at_ b : Int) : Row × WSt := ([(b + gI key at_) % 256], .add key ((at_ + 1) % (key.length : Int)))
def moveFront (row : Row) (k : Nat) : Row := row.getD k 0 :: row.eraseIdx k
def takeFront (row : Row) (b : Int) : Row × WSt := ([(row.idxOf b : Int)], .front (moveFront row (row.idxOf b)))
def escOut (e b : Int) : Row := if b = e % 256 then [(e + 1) % 256, (e + 2) % 256] else if b = (e + 1) % 256 then [(e + 1) % 256, (e + 3) % 256] else [b]
def takeRuns (many byte b : Int) : Row × WSt :=
  if many > 0 ∧ b ≠ byte then ([many, byte], .runs 1 b)
  else if many + 1 = 255 then ([255, b], .runs 0 b) else ([], .runs (many + 1) b)
def takeChunks (size : Int) (held : Row) (b : Int) : Row × WSt :=
  if ((held ++ [b]).length : Int) = size then (((held ++ [b]).length : Int) :: (held ++ [b]), .chunks size []) else ([], .chunks size (held ++ [b]))
def takeChecks (size many check b : Int) : Row × WSt :=
  if many + 1 < size then ([b], .checks size (many + 1) (nextCheck check b)) else (b :: checkBytes (nextCheck check b), .checks size 0 (nextCheck check b))
def takeSigns (many value b : Int) : Row × WSt :=
  if many + 2 ≥ 6 then ([signOf ((value * 256 + b) / pow2 (many + 2)), signOf ((value * 256 + b) % pow2 (many + 2) / pow2 (many + 2 - 6))], .signs (many + 2 - 6) ((value * 256 + b) % pow2 (many + 2) % pow2 (many + 2 - 6)))
  else ([signOf ((value * 256 + b) / pow2 (many + 2))], .signs (many + 2) ((value * 256 + b) % pow2 (many + 2)))
def wtake : WSt → Int → Row × WSt
  | .add key at_, b => takeAdd key at_ b
  | .front row, b => takeFront row b
  | .esc e, b => (escOut e b, .esc e)
  | .runs many byte, b => takeRuns many byte b
  | .chunks size held, b => takeChunks size held b
  | .checks size many check, b => takeChecks size many check b
  | .signs many value, b => takeSigns many value b
def wend : WSt → Row
  | .add _ _ => []
  | .front _ => []
  | .esc _ => []
  | .runs many byte => if many = 0 then [] else [many, byte]
  | .chunks _ held => (held.length : Int) :: held
  | .checks _ _ check => checkBytes check
  | .signs many value => if many = 0 then [] else [signOf (value * pow2 (6 - many))]
/-- what a writer is behind its end -/
def wended : WSt → WSt
  | .runs _ byte => .runs 0 byte
  | .chunks size _ => .chunks size []
  | .checks size _ check => .checks size 0 check
  | s => s
def WOk : WSt → Prop
  | .add key at_ => 1 ≤ key.length ∧ key.length ≤ 8 ∧ Bys key ∧ 0 ≤ at_ ∧ at_ < (key.length : Int)
  | .front row => row.length = 256 ∧ ∀ b, By b → b ∈ row
  | .esc e => By e
  | .runs many byte => 0 ≤ many ∧ many < 255 ∧ By byte
  | .chunks size held => 1 ≤ size ∧ size ≤ 255 ∧ (held.length : Int) < size ∧ Bys held
  | .checks size many check => 1 ≤ size ∧ size ≤ 255 ∧ 0 ≤ many ∧ many < size ∧ 0 ≤ check ∧ check < 65521
  | .signs many value => (many = 0 ∨ many = 2 ∨ many = 4) ∧ 0 ≤ value ∧ value < pow2 many
/-- a row through one writer -/
def wfeed : WSt → Row → Row × WSt
  | s, [] => ([], s)
  | s, b :: r => ((wtake s b).1 ++ (wfeed (wtake s b).2 r).1, (wfeed (wtake s b).2 r).2)
/-- a row through writers, one behind the other -/
def wthru : List WSt → Row → Row × List WSt
  | [], r => (r, [])
  | s :: ss, r => ((wthru ss (wfeed s r).1).1, (wfeed s r).2 :: (wthru ss (wfeed s r).1).2)
/-- the ends, from the first on -/
def wendAll : Nat → List WSt → Row
  | 0, _ => []
  | _ + 1, [] => []
  | n + 1, s :: ss => (wthru ss (wend s)).1 ++ wendAll n (wthru ss (wend s)).2
/-- all rows between are of a size that a list may have -/
def WFits : List WSt → Row → Prop
  | [], r => r.length ≤ 16777216
  | s :: ss, r => r.length ≤ 16777216 ∧ WFits ss (wfeed s r).1
def WEndFits : Nat → List WSt → Prop
  | 0, _ => True
  | _ + 1, [] => True
  | n + 1, s :: ss => WFits ss (wend s) ∧ WEndFits n (wthru ss (wend s)).2

/-! ### readers -/
inductive RSt where
  | add (key : Row) (at_ : Int)
  | front (row : Row)
  | esc (b done : Int) (marked : Bool)
  | runs (done many lastN lastB : Int)
  | chunks (size done left : Int) (isLast : Bool)
  | checks (size done check : Int) (held : Row)
  | signs (done many value : Int)
def checkAll : Int → Row → Int
  | c, [] => c
  | c, b :: r => checkAll (nextCheck c b) r
/-- what comes of a byte: a fault at a place, or bytes -/
inductive RTake where
  | wrong (place : Int)
  | ok (row : Row) (s : RSt)
inductive REnd where
  | wrong (place : Int)
  | cut
  | ok (row : Row)
def blockRow (held : Row) : Row := held.take (held.length - 2)
def blockTail (held : Row) : Row := held.drop (held.length - 2)
def rtake : RSt → Int → RTake
  | .add key at_, b => .ok [(b - gI key at_) % 256] (.add key ((at_ + 1) % (key.length : Int)))
  | .front row, b => .ok [gI row b] (.front (moveFront row b.toNat))
  | .esc e done marked, b =>
    if marked = true then
      if b = (e + 2) % 256 then .ok [e % 256] (.esc e (done + 1) false)
      else if b = (e + 3) % 256 then .ok [(e + 1) % 256] (.esc e (done + 1) false)
      else .wrong done
    else if b = e % 256 then .wrong done
    else if b = (e + 1) % 256 then .ok [] (.esc e (done + 1) true)
    else .ok [b] (.esc e (done + 1) false)
  | .runs done many lastN lastB, b =>
    if many = 0 then
      if b = 0 then .wrong done else .ok [] (.runs (done + 1) b lastN lastB)
    else if b = lastB ∧ 0 < lastN ∧ lastN < 255 then .wrong done
    else .ok (List.replicate many.toNat b) (.runs (done + 1) 0 many b)
  | .chunks size done left isLast, b =>
    if left > 0 then .ok [b] (.chunks size (done + 1) (left - 1) isLast)
    else if isLast = true ∨ b > size then .wrong done
    else .ok [] (.chunks size (done + 1) b (decide (b < size)))
  | .checks size done check held, b =>
    if ((held ++ [b]).length : Int) = size + 2 then
      if blockTail (held ++ [b]) = checkBytes (checkAll check (blockRow (held ++ [b]))) then .ok (blockRow (held ++ [b])) (.checks size (done + 1) (checkAll check (blockRow (held ++ [b]))) [])
      else .wrong done
    else .ok [] (.checks size (done + 1) check (held ++ [b]))
  | .signs done many value, b =>
    if b ∈ signsT then
      if many + 6 < 8 then .ok [] (.signs (done + 1) (many + 6) (value * 64 + (signsT.idxOf b : Int)))
      else .ok [(value * 64 + (signsT.idxOf b : Int)) / pow2 (many - 2)] (.signs (done + 1) (many - 2) ((value * 64 + (signsT.idxOf b : Int)) % pow2 (many - 2)))
    else .wrong done
def rend : RSt → REnd
  | .add _ _ => .ok []
  | .front _ => .ok []
  | .esc _ _ marked => if marked = true then .cut else .ok []
  | .runs _ many _ _ => if many > 0 then .cut else .ok []
  | .chunks _ _ left isLast => if left > 0 ∨ ¬ isLast = true then .cut else .ok []
  | .checks _ done check held =>
    if (held.length : Int) < 2 then .cut
    else if blockTail held = checkBytes (checkAll check (blockRow held)) then .ok (blockRow held) else .wrong (done - 1)
  | .signs done many value => if many = 6 then .cut else if value > 0 then .wrong (done - 1) else .ok []
def ROk : RSt → Prop
  | .add key at_ => 1 ≤ key.length ∧ key.length ≤ 8 ∧ Bys key ∧ 0 ≤ at_ ∧ at_ < (key.length : Int)
  | .front row => row.length = 256 ∧ Bys row
  | .esc e _ _ => By e
  | .runs _ many lastN lastB => By many ∧ By lastN ∧ By lastB
  | .chunks size _ left _ => 1 ≤ size ∧ size ≤ 255 ∧ 0 ≤ left ∧ left ≤ 255
  | .checks size _ check held => 1 ≤ size ∧ size ≤ 255 ∧ 0 ≤ check ∧ check < 65521 ∧ (held.length : Int) < size + 2 ∧ Bys held
  | .signs _ many value => (many = 0 ∨ many = 2 ∨ many = 4 ∨ many = 6) ∧ 0 ≤ value ∧ value < pow2 many
inductive Fault where
  | wrong (layer place : Int)
  | cut (layer : Int)
deriving DecidableEq
/-- what is told; the parts behind it (the outermost first); the fault -/
abbrev Told := Row × List RSt × Option Fault
/-- bytes one after the other, by what one of them brings -/
def rseq (f : List RSt → Int → Told) : List RSt → Row → Told
  | ss, [] => ([], ss, none)
  | ss, b :: r =>
    match f ss b with
    | (o, ss', some x) => (o, ss', some x)
    | (o, ss', none) => (o ++ (rseq f ss' r).1, (rseq f ss' r).2)
/-- one byte through the parts: the list's first is the outermost; n: how many there are -/
def rone : Nat → List RSt → Int → Told
  | 0, ss, b => ([b], ss, none)
  | n + 1, [], b => ([b], [], none)
  | n + 1, s :: ss, b =>
    match rtake s b with
    | .wrong place => ([], s :: ss, some (.wrong (n : Int) place))
    | .ok row s' => ((rseq (rone n) ss row).1, s' :: (rseq (rone n) ss row).2.1, (rseq (rone n) ss row).2.2)
/-- bytes through the parts -/
def rrow (ss : List RSt) (r : Row) : Told := rseq (rone ss.length) ss r
/-- the ends, from the outermost on -/
def rendAll : Nat → List RSt → Row × Option Fault
  | 0, _ => ([], none)
  | n + 1, [] => ([], none)
  | n + 1, s :: ss =>
    match rend s with
    | .wrong place => ([], some (.wrong (n : Int) place))
    | .cut => ([], some (.cut (n : Int)))
    | .ok row =>
      match rseq (rone n) ss row with
      | (o, _, some x) => (o, some x)
      | (o, ss', none) => (o ++ (rendAll n ss').1, (rendAll n ss').2)

/-! ### layers -/
inductive Lay where
  | add (key : Row)
  | front
  | esc (b : Int)
  | runs
  | chunks (n : Int)
  | checks (n : Int)
  | signs
def Lay.Ok : Lay → Prop
  | .add key => 1 ≤ key.length ∧ key.length ≤ 8 ∧ Bys key
  | .front => True
  | .esc b => By b
  | .runs => True
  | .chunks n => 1 ≤ n ∧ n ≤ 255
  | .checks n => 1 ≤ n ∧ n ≤ 255
  | .signs => True
def range256 : Row := (List.range 256).map Int.ofNat
def newW : Lay → WSt
  | .add key => .add key 0
  | .front => .front range256
  | .esc b => .esc b
  | .runs => .runs 0 0
  | .chunks n => .chunks n []
  | .checks n => .checks n 0 0
  | .signs => .signs 0 0
def newR : Lay → RSt
  | .add key => .add key 0
  | .front => .front range256
  | .esc b => .esc b 0 false
  | .runs => .runs 0 0 0 0
  | .chunks n => .chunks n 0 0 false
  | .checks n => .checks n 0 0 []
  | .signs => .signs 0 0 0
/-- the whole stream -/
def written (ls : List Lay) (r : Row) : Row := (wthru (ls.map newW) r).1 ++ wendAll ls.length (wthru (ls.map newW) r).2
/-- the bytes of a whole stream, and the fault -/
def readAll (ls : List Lay) (r : Row) : Row × Option Fault :=
  match rrow (ls.reverse.map newR) r with
  | (o, _, some x) => (o, some x)
  | (o, ss, none) => (o ++ (rendAll ss.length ss).1, (rendAll ss.length ss).2)
end Flow

/-! further steps: loops, comprehensions, rows of ints -/
namespace Flow
open PySem PySem.Spec PyProof.Rows L2
def iV (xs : Row) : List V := xs.map V.int
theorem iV_length (xs : Row) : (iV xs).length = xs.length := List.length_map ..
theorem iV_nil : iV [] = [] := rfl
theorem iV_cons (x : Int) (xs : Row) : iV (x :: xs) = V.int x :: iV xs := rfl
theorem iV_append (xs ys : Row) : iV (xs ++ ys) = iV xs ++ iV ys := List.map_append ..
theorem iV_snoc (xs : Row) (x : Int) : iV (xs ++ [x]) = iV xs ++ [V.int x] := by
  rw [iV_append] <;> rfl
theorem iV_get {xs : Row} {i : Nat} {x : V} (h : (iV xs)[i]? = some x) : ∃ z, xs[i]? = some z ∧ x = V.int z := by
  unfold iV at h
  rw [List.getElem?_map] at h
  cases e : xs[i]? with
  | none =>
    rw [e] at h
    cases h
  | some z =>
    rw [e] at h
    exact ⟨z, rfl, (Option.some.inj h).symm⟩
theorem iV_at {xs : Row} {i : Nat} {z : Int} (h : xs[i]? = some z) : (iV xs)[i]? = some (V.int z) := by
  unfold iV
  rw [List.getElem?_map, h] <;> rfl
theorem gI_nat {xs : Row} {j : Nat} {z : Int} (h : xs[j]? = some z) : gI xs (j : Int) = z := by
  unfold gI
  simp [List.getD, h]
theorem gI_at {xs : Row} {i : Int} (h0 : 0 ≤ i) (h : i < (xs.length : Int)) : atI (iV xs) i = some (V.int (gI xs i)) := by
  obtain ⟨j, rfl⟩ : ∃ j : Nat, i = (j : Int) := ⟨i.toNat, by omega⟩
  have hj : j < xs.length := by omega
  have e := List.getElem?_eq_getElem hj
  rw [gI_nat e]
  exact at_of rfl (iV_at e)
theorem flat_iV (xs : Row) : (iV xs).all flatV = true := flat_ints xs
theorem inV_iV (b : Int) (xs : Row) : inV (.int b) (iV xs) = decide (b ∈ xs) := by
  unfold inV iV
  rw [List.any_map]
  induction xs with
  | nil => rfl
  | cons x r ih =>
    rw [List.any_cons, ih]
    have e : eqV (.int x) (.int b) = (x == b) := rfl
    by_cases h : b = x
    · subst h
      simp [Function.comp, eqV]
    · have h' : ¬ x = b := fun z => h z.symm
      simp [Function.comp, eqV, h, h']
theorem take_more {α : Type} : ∀ {l : List α} {i : Nat} {x : α}, l[i]? = some x → l.take (i + 1) = l.take i ++ [x]
  | [], i, x, h => by simp at h
  | a :: l, 0, x, h => by
    have e : a = x := Option.some.inj h
    subst e
    rfl
  | a :: l, i + 1, x, h => by
    have ih := take_more (l := l) (i := i) (x := x) h
    show a :: l.take (i + 1) = a :: l.take i ++ [x]
    rw [ih]
    rfl
theorem drop_more {α : Type} : ∀ {l : List α} {i : Nat} {x : α}, l[i]? = some x → l.drop i = x :: l.drop (i + 1)
  | [], i, x, h => by simp at h
  | a :: l, 0, x, h => by
    have e : a = x := Option.some.inj h
    subst e
    rfl
  | a :: l, i + 1, x, h => by
    have ih := drop_more (l := l) (i := i) (x := x) h
    show l.drop i = x :: l.drop (i + 1)
    exact ih
section
variable {K : PySem.W.Frag} {σ : L2.St} {H : Hp} {ta tb te tv tl : TE} {t u c tt : TT} {i j : Nat} {v x y : V} {Q : VK} {D : Ends} {g : TG} {ts : TS} {a C dx p l : Addr} {vs xs ys : List V} {m n b : Int} {rw_ ks : Row}
/-! rows of ints -/
theorem eraseIdx_iV : ∀ (xs : Row) (j : Nat), (iV xs).eraseIdx j = iV (xs.eraseIdx j)
  | [], _ => rfl
  | _ :: _, 0 => rfl
  | x :: r, j + 1 => by
    show V.int x :: (iV r).eraseIdx j = V.int x :: iV (r.eraseIdx j)
    rw [eraseIdx_iV r j]
theorem x_inI (h : SqL K H p (iV rw_) ∨ SqT K H p (iV rw_)) (q : Q (.bl (decide (b ∈ rw_))) H) : rIn K false (.int b) (.ref p) H Q :=
  ⟨p, _, rfl, h, rfl, flat_iV _, by rw [inV_iV]; exact q⟩
theorem x_ninI (h : SqL K H p (iV rw_) ∨ SqT K H p (iV rw_)) (q : Q (.bl (!decide (b ∈ rw_))) H) : rIn K true (.int b) (.ref p) H Q :=
  ⟨p, _, rfl, h, rfl, flat_iV _, by rw [inV_iV]; exact q⟩
theorem idx_no {xs : Row} {b z : Int} {m : Nat} (h : m < xs.idxOf b) (hz : xs[m]? = some z) : z ≠ b := by
  intro e
  subst e
  obtain ⟨hm, e⟩ := List.getElem?_eq_some_iff.mp hz
  have h2 := List.not_of_lt_findIdx (p := (· == z)) (xs := xs) (i := m) (by unfold List.idxOf at h; exact h)
  rw [e] at h2
  simp at h2
theorem idx_get {xs : Row} {b : Int} (h : b ∈ xs) : xs[xs.idxOf b]? = some b := by
  have hl : xs.idxOf b < xs.length := List.idxOf_lt_length_of_mem h
  rw [List.getElem?_eq_getElem hl, List.getElem_idxOf]
theorem x_index (h : SqL K H p (iV rw_)) (hm : b ∈ rw_) (q : Q (.int (rw_.idxOf b : Int)) H) : rIndex K (.ref p) [.int b] H Q := by
  refine ⟨p, iV rw_, .int b, rw_.idxOf b, .int b, rfl, rfl, h, rfl, flat_iV _, iV_at (idx_get hm), by simp [eqV], fun m z' hlt hz => ?_, q⟩
  obtain ⟨z, e, rfl⟩ := iV_get hz
  have := idx_no hlt e
  simp [eqV, this]
theorem x_tupIx (h : SqT K H p (iV rw_)) (hm : b ∈ rw_) (q : Q (.int (rw_.idxOf b : Int)) H) : rTupIx K (.ref p) [.int b] H Q := by
  refine ⟨p, rw_, b, rw_.idxOf b, rfl, rfl, h, idx_get hm, fun m hlt hz => idx_no hlt hz rfl, q⟩
theorem seqIx {i n : Nat} (h : i < n) : seqIndex? (i : Int) n = some i := by
  unfold seqIndex?
  simp only [show ¬ ((i : Int) < 0) by omega, if_false]
  first
    | (rw [if_pos (by omega)]; simp)
    | simp [h]
theorem x_popAt (h : H l = some (.lst (iV rw_))) (h0 : 0 ≤ m) (h1 : m < (rw_.length : Int)) (hz : (rw_.length : Int) < 1000000000) (q : Q (.int (gI rw_ m)) (upd H l (.lst (iV (rw_.eraseIdx m.toNat))))) : rPopAt (.ref l) [.int m] H Q := by
  obtain ⟨j, rfl⟩ : ∃ j : Nat, m = (j : Int) := ⟨m.toNat, by omega⟩
  have hj : j < rw_.length := by omega
  refine ⟨l, iV rw_, (j : Int), j, .int (gI rw_ (j : Int)), rfl, rfl, h, by omega, by omega, seqIx (by rw [iV_length]; exact hj), ?_, ?_⟩
  · rw [gI_nat (List.getElem?_eq_getElem hj)]
    exact iV_at (List.getElem?_eq_getElem hj)
  · have e : (iV rw_).eraseIdx j = iV (rw_.eraseIdx j) := by
      exact eraseIdx_iV rw_ j
    rw [e]
    exact q
theorem x_insert0 (h : H l = some (.lst xs)) (hz : xs.length < sizeLine) (q : Q .non (upd H l (.lst (y :: xs)))) : rInsert (.ref l) [.int 0, y] H Q :=
  ⟨l, xs, 0, y, rfl, rfl, h, hz, by decide, by decide, q⟩
theorem x_rep1 (h : H l = some (.lst [x])) (h0 : 0 ≤ m) (h1 : m ≤ 100000) (q : ∀ p, H p = none → Q (.ref p) (upd H p (.lst (List.replicate m.toNat x)))) : rRep (.ref l) (.int m) H Q := by
  refine ⟨l, m, [x], rfl, rfl, h, by omega, by omega, ?_, fun p hp => ?_⟩
  · rw [sizeLine_eq]
    simp only [List.length_singleton]
    omega
  · have e : (List.replicate m.toNat [x]).flatten = List.replicate m.toNat x := by
      generalize m.toNat = k
      induction k with
      | zero => rfl
      | succ k ih => rw [List.replicate_succ, List.flatten_cons, ih, List.replicate_succ] <;> rfl
    rw [e]
    exact q p hp
/-! range as a list -/
def rRg (k : Int → Int → Hp → Prop) : V → Hp → Prop := fun x H1 => ∃ n, x = .int n ∧ k 0 n H1
theorem x_lstRg1 (q : ta σ H fun x H1 => rRg (fun a b H1 => RgOk a b ∧ ∀ q, H1 q = none → Q (.ref q) (upd H1 q (.lst (rgV a b)))) x H1) : tLstRg (tRg1 ta) σ H Q := q
theorem x_rRg {k : Int → Int → Hp → Prop} (q : k 0 m H) : rRg k (.int m) H := ⟨m, rfl, q⟩
/-! tests joined -/
theorem x_andJ {a b : Bool} {B : Bool → Hp → Prop} (ht : ∀ B' : Bool → Hp → Prop, B' a H → t σ H B') (hu : a = true → ∀ B' : Bool → Hp → Prop, B' b H → u σ H B') (h1 : a = true → b = true → B true H) (h2 : (a && b) = false → B false H) : tAnd t u σ H B := by
  refine ht _ ?_
  cases a with
  | false => exact iteF (h2 rfl)
  | true =>
    refine iteT (hu rfl _ ?_)
    cases b with
    | true => exact h1 rfl rfl
    | false => exact h2 rfl
theorem x_orJ {a b : Bool} {B : Bool → Hp → Prop} (ht : ∀ B' : Bool → Hp → Prop, B' a H → t σ H B') (hu : a = false → ∀ B' : Bool → Hp → Prop, B' b H → u σ H B') (h1 : (a || b) = true → B true H) (h2 : a = false → b = false → B false H) : tOr t u σ H B := by
  refine ht _ ?_
  cases a with
  | true => exact iteT (h1 rfl)
  | false =>
    refine iteF (hu rfl _ ?_)
    cases b with
    | true => exact h1 rfl
    | false => exact h2 rfl rfl
/-! loops -/
def rForL (K : PySem.W.Frag) (g : TG) (tb : TS) (D : Ends) (σ : L2.St) : V → Hp → Prop := fun x H1 => ∃ a, x = .ref a ∧ (∃ xs, SqL K H1 a xs) ∧ ∃ W : Nat → Nat → L2.St → Hp → Prop, (∃ m, W 0 m σ H1) ∧ ∀ i m σ H, W i m σ H →
  (((Itl K a).stop i H ∧ D.nx σ H) ∨ ((Itl K a).go i H ∧ ∃ N : L2.St → Hp → Prop, (∀ σ' H', N σ' H' → ∃ m', m' < m ∧ W (i + 1) m' σ' H') ∧ ∀ x H', (Itl K a).yld i H x H' → g x σ H' fun σ2 H2 => tb { D with nx := N, ct := N, bk := D.nx } σ2 H2))
theorem x_forL (q : tl σ H fun x H1 => rForL K g ts D σ x H1) : tFor (iList K tl) g ts D σ H := q
theorem x_rForL (h : SqL K H a xs) (Pv : Nat → L2.St → Hp → Prop) (h0 : Pv 0 σ H) (hl : ∀ i σ H, i ≤ xs.length → Pv i σ H → SqL K H a xs)
    (hs : ∀ i x σ H, xs[i]? = some x → Pv i σ H → g x σ H fun σ2 H2 => ts { D with nx := Pv (i + 1), ct := Pv (i + 1), bk := D.nx } σ2 H2) (hd : ∀ σ H, Pv xs.length σ H → D.nx σ H) : rForL K g ts D σ (.ref a) H :=
  ⟨a, rfl, ⟨xs, h⟩, for_list Pv h0 hl hs hd⟩
def rForR1 (g : TG) (tb : TS) (D : Ends) (σ : L2.St) : List V → Hp → Prop := fun vs H1 => ∃ j : Int, vs = [.int j] ∧ -(2 ^ 62) ≤ j ∧ j < 2 ^ 62 ∧ ∃ W : Nat → Nat → L2.St → Hp → Prop, (∃ m, W 0 m σ H1) ∧ ∀ i m σ H, W i m σ H →
  (((Itr 0 j.toNat).stop i H ∧ D.nx σ H) ∨ ((Itr 0 j.toNat).go i H ∧ ∃ N : L2.St → Hp → Prop, (∀ σ' H', N σ' H' → ∃ m', m' < m ∧ W (i + 1) m' σ' H') ∧ ∀ x H', (Itr 0 j.toNat).yld i H x H' → g x σ H' fun σ2 H2 => tb { D with nx := N, ct := N, bk := D.nx } σ2 H2))
theorem x_forR1 {ta : TA} (q : ta σ H fun vs H1 => rForR1 g ts D σ vs H1) : tFor (iRng1 ta) g ts D σ H := q
theorem x_rForR1 {k : Nat} (hn : n = (k : Int)) (hz : k < 2 ^ 62) (Pv : Nat → L2.St → Hp → Prop) (h0 : Pv 0 σ H)
    (hs : ∀ i σ H, i < k → Pv i σ H → g (.int (i : Int)) σ H fun σ2 H2 => ts { D with nx := Pv (i + 1), ct := Pv (i + 1), bk := D.nx } σ2 H2) (hd : ∀ σ H, Pv k σ H → D.nx σ H) : rForR1 g ts D σ [.int n] H := by
  subst hn
  refine ⟨(k : Int), rfl, by omega, by omega, for_range (lo := 0) (n := (k : Int).toNat) Pv h0 (fun i σ H hi p => ?_) fun σ H p => hd σ H (by rw [Int.toNat_natCast] at p; exact p)⟩
  rw [Int.zero_add]
  exact hs i σ H (by rw [Int.toNat_natCast] at hi; exact hi) p
def rForRev (g : TG) (tb : TS) (D : Ends) (σ : L2.St) : V → Hp → Prop := fun x H0 => ∃ n, x = .int n ∧ (-(2 ^ 62) ≤ (0 : Int) ∧ (0 : Int) < 2 ^ 62 ∧ -(2 ^ 62) ≤ n ∧ n < 2 ^ 62 ∧ ∃ W : Nat → Nat → L2.St → Hp → Prop, (∃ m, W 0 m σ H0) ∧ ∀ i m σ H, W i m σ H →
  (((Itc (0 + (((n - 0).toNat : Nat) : Int) - 1) (-1) (n - 0).toNat).stop i H ∧ D.nx σ H) ∨ ((Itc (0 + (((n - 0).toNat : Nat) : Int) - 1) (-1) (n - 0).toNat).go i H ∧ ∃ N : L2.St → Hp → Prop, (∀ σ' H', N σ' H' → ∃ m', m' < m ∧ W (i + 1) m' σ' H') ∧
    ∀ x H', (Itc (0 + (((n - 0).toNat : Nat) : Int) - 1) (-1) (n - 0).toNat).yld i H x H' → g x σ H' fun σ2 H2 => tb { D with nx := N, ct := N, bk := D.nx } σ2 H2)))
theorem x_forRev (q : ta σ H fun x H1 => rForRev g ts D σ x H1) : tFor (iRevR (tRg1 ta)) g ts D σ H := q
theorem x_rForRev {k : Nat} (hn : n = (k : Int)) (hz : k < 2 ^ 60) (Pv : Nat → L2.St → Hp → Prop) (h0 : Pv 0 σ H)
    (hs : ∀ i σ H, i < k → Pv i σ H → g (.int ((k - 1 - i : Nat) : Int)) σ H fun σ2 H2 => ts { D with nx := Pv (i + 1), ct := Pv (i + 1), bk := D.nx } σ2 H2) (hd : ∀ σ H, Pv k σ H → D.nx σ H) : rForRev g ts D σ (.int n) H := by
  subst hn
  have e0 : (((k : Int) - 0).toNat) = k := by omega
  refine ⟨(k : Int), rfl, by omega, by omega, by omega, by omega, ?_⟩
  rw [e0]
  refine for_rangeC (lo := 0 + (k : Int) - 1) (c := -1) (n := k) Pv h0 (fun i σ H hi p => ?_) hd
  have e1 : (0 + (k : Int) - 1 + (i : Nat) * (-1) : Int) = ((k - 1 - i : Nat) : Int) := by omega
  rw [e1]
  exact hs i σ H hi p
theorem x_while {c : TT} {tb : TS} (W : Nat → L2.St → Hp → Prop) (m0 : Nat) (h0 : W m0 σ H) (hs : ∀ m σ H, W m σ H → c σ H fun b H1 => if b = true then ∃ N : L2.St → Hp → Prop, (∀ σ' H', N σ' H' → ∃ m', m' < m ∧ W m' σ' H') ∧ tb { D with nx := N, ct := N, bk := D.nx } σ H1 else D.nx σ H1) :
    tWhile c tb D σ H := ⟨W, ⟨m0, h0⟩, hs⟩
/-! comprehensions whose elements leave all that stands -/
def gvn (n : Nat) (c : Nat → Bool) (f : Nat → V) : List V := ((List.range n).filter c).map f
theorem gvn_yes {n : Nat} {c : Nat → Bool} {f : Nat → V} (h : c n = true) : gvn (n + 1) c f = gvn n c f ++ [f n] := by
  unfold gvn
  rw [List.range_succ, List.filter_append, List.map_append, List.filter_cons, if_pos h] <;> rfl
theorem gvn_no {n : Nat} {c : Nat → Bool} {f : Nat → V} (h : c n = false) : gvn (n + 1) c f = gvn n c f := by
  unfold gvn
  rw [List.range_succ, List.filter_append, List.map_append, List.filter_cons, if_neg (by rw [h]; decide)]
  show _ ++ [] = _
  rw [List.append_nil]
theorem gvn_len (n : Nat) (c : Nat → Bool) (f : Nat → V) : (gvn n c f).length ≤ n := by
  unfold gvn
  rw [List.length_map]
  have h := List.length_filter_le c (List.range n)
  rw [List.length_range] at h
  exact h
theorem gvn_all (n : Nat) (f : Nat → V) : gvn n (fun _ => true) f = (List.range n).map f := by
  unfold gvn
  rw [List.filter_eq_self.mpr fun _ _ => rfl]
abbrev Ext (H H' : Hp) : Prop := Only' [] H H'
theorem lc_turn {H H' : Hp} {cb : Nat → Bool} {f : Nat → V} {Dl : Addr} {i : Nat} {σ2 : L2.St} (p : H Dl = none ∧ Ext H H' ∧ H' Dl = some (.lst (gvn i cb f))) (hz : i < sizeLine)
    (ht : ∀ H1, Ext H H1 → ∀ B : Bool → Hp → Prop, (∀ H2, Ext H1 H2 → B (cb i) H2) → tt σ2 H1 B) (he : cb i = true → ∀ H1, Ext H H1 → ∀ Q' : VK, (∀ H2, Ext H1 H2 → Q' (f i) H2) → te σ2 H1 Q') :
    tt σ2 H' fun b H3 => if b = true then te σ2 H3 fun y H4 => ∃ acc, H4 Dl = some (.lst acc) ∧ acc.length < sizeLine ∧ (H Dl = none ∧ Ext H (upd H4 Dl (.lst (acc ++ [y]))) ∧ (upd H4 Dl (.lst (acc ++ [y]))) Dl = some (.lst (gvn (i + 1) cb f))) else (H Dl = none ∧ Ext H H3 ∧ H3 Dl = some (.lst (gvn (i + 1) cb f))) := by
  obtain ⟨p1, p2, p3⟩ := p
  refine ht H' p2 _ fun H3 e3 => ?_
  cases hf : cb i with
  | true =>
    refine iteT (he hf H3 (p2.trans e3) _ fun H4 e4 => ⟨gvn i cb f, e4 Dl _ (e3 Dl _ p3 (by simp)) (by simp), Nat.lt_of_le_of_lt (gvn_len i cb f) hz, p1, Only'.put0 ((p2.trans e3).trans e4) p1, ?_⟩)
    rw [gvn_yes hf]
    exact upd_same
  | false =>
    refine iteF ⟨p1, p2.trans e3, ?_⟩
    rw [gvn_no hf]
    exact e3 Dl _ p3 (by simp)
def rLcL (K : PySem.W.Frag) (g : TG) (tt : TT) (te : TE) (vs : List Nat) (σ : L2.St) : V → Hp → VK → Prop := fun x H1 Q => ∃ a, x = .ref a ∧ (∃ xs, SqL K H1 a xs) ∧ ∀ D, H1 D = none → ∃ W : Nat → Nat → Hp → Prop, (∃ m, W 0 m (upd H1 D (.lst []))) ∧ ∀ i m H, W i m H →
  ((Itl K a).stop i H ∧ Q (.ref D) H) ∨ ((Itl K a).go i H ∧ ∃ Nx : Hp → Prop, (∀ H', Nx H' → ∃ m', m' < m ∧ W (i + 1) m' H') ∧ ∀ x H', (Itl K a).yld i H x H' → g x (wipe σ vs) H' fun σ2 H2 => wipe σ2 vs = wipe σ vs ∧ tt σ2 H2 fun b H3 =>
    if b = true then te σ2 H3 fun y H4 => ∃ acc, H4 D = some (.lst acc) ∧ acc.length < sizeLine ∧ Nx (upd H4 D (.lst (acc ++ [y]))) else Nx H3)
theorem x_lcL {ws : List Nat} (q : tl σ H fun x H1 => rLcL K g tt te ws σ x H1 Q) : tLc (iList K tl) g tt te ws σ H Q := q
theorem SqL.ext {K : PySem.W.Frag} {H H' : Hp} {a : Addr} {xs : List V} (e : Ext H H') (h : SqL K H a xs) : SqL K H' a xs := by
  rcases h with (h | ⟨o, h⟩) | h
  · exact .inl (.inl (e _ _ h (by simp)))
  · exact .inl (.inr ⟨o, e _ _ h (by simp)⟩)
  · exact .inr h
theorem SqT.ext {K : PySem.W.Frag} {H H' : Hp} {a : Addr} {xs : List V} (e : Ext H H') (h : SqT K H a xs) : SqT K H' a xs := by
  rcases h with (h | ⟨o, h⟩) | h
  · exact .inl (.inl (e _ _ h (by simp)))
  · exact .inl (.inr ⟨o, e _ _ h (by simp)⟩)
  · exact .inr h
theorem x_rLcLT {ws : List Nat} (cb : Nat → Bool) (f : Nat → V) (h : SqL K H a xs) (hz : xs.length ≤ sizeLine) (hw : ∀ x, wipe ((wipe σ ws).set j (some x)) ws = wipe σ ws)
    (ht : ∀ (i : Nat) x H1, xs[i]? = some x → Ext H H1 → ∀ B : Bool → Hp → Prop, (∀ H2, Ext H1 H2 → B (cb i) H2) → tt ((wipe σ ws).set j (some x)) H1 B)
    (he : ∀ (i : Nat) x H1, xs[i]? = some x → cb i = true → Ext H H1 → ∀ Q' : VK, (∀ H2, Ext H1 H2 → Q' (f i) H2) → te ((wipe σ ws).set j (some x)) H1 Q')
    (q : ∀ p H1, H p = none → Ext H H1 → H1 p = some (.lst (gvn xs.length cb f)) → Q (.ref p) H1) : rLcL K (gName j) tt te ws σ (.ref a) H Q := by
  refine ⟨a, rfl, ⟨xs, h⟩, fun Dl hD => lc_list (K := K) (a := a) (xs := xs) (fun i H' => H Dl = none ∧ Ext H H' ∧ H' Dl = some (.lst (gvn i cb f))) ⟨hD, Only'.put0 Only'.refl hD, upd_same⟩
    (fun i H' _ p => SqL.ext p.2.1 h) (fun i x H' hi p => ⟨hw x, lc_turn p (Nat.lt_of_lt_of_le (List.getElem?_eq_some_iff.mp hi).1 hz) (fun H1 e => ht i x H1 hi e) (fun hc H1 e => he i x H1 hi hc e)⟩) (fun H' p => q Dl H' p.1 p.2.1 p.2.2)⟩
theorem x_rLcL {ws : List Nat} (f : Nat → V) (h : SqL K H a xs) (hz : xs.length ≤ sizeLine) (hw : ∀ x, wipe ((wipe σ ws).set j (some x)) ws = wipe σ ws)
    (he : ∀ (i : Nat) x H1, xs[i]? = some x → Ext H H1 → ∀ Q' : VK, (∀ H2, Ext H1 H2 → Q' (f i) H2) → te ((wipe σ ws).set j (some x)) H1 Q')
    (q : ∀ p H1, H p = none → Ext H H1 → H1 p = some (.lst ((List.range xs.length).map f)) → Q (.ref p) H1) : rLcL K (gName j) tYes te ws σ (.ref a) H Q :=
  x_rLcLT (fun _ => true) f h hz hw (fun i x H1 _ _ B k => k H1 Only'.refl) (fun i x H1 hi _ e => he i x H1 hi e) fun p H1 hp e h1 => q p H1 hp e (by rw [← gvn_all]; exact h1)
def rLcT (K : PySem.W.Frag) (g : TG) (tt : TT) (te : TE) (vs : List Nat) (σ : L2.St) : V → Hp → VK → Prop := fun x H1 Q => ∃ a, x = .ref a ∧ (∃ xs, SqT K H1 a xs) ∧ ∀ D, H1 D = none → ∃ W : Nat → Nat → Hp → Prop, (∃ m, W 0 m (upd H1 D (.lst []))) ∧ ∀ i m H, W i m H →
  ((Itt K a).stop i H ∧ Q (.ref D) H) ∨ ((Itt K a).go i H ∧ ∃ Nx : Hp → Prop, (∀ H', Nx H' → ∃ m', m' < m ∧ W (i + 1) m' H') ∧ ∀ x H', (Itt K a).yld i H x H' → g x (wipe σ vs) H' fun σ2 H2 => wipe σ2 vs = wipe σ vs ∧ tt σ2 H2 fun b H3 =>
    if b = true then te σ2 H3 fun y H4 => ∃ acc, H4 D = some (.lst acc) ∧ acc.length < sizeLine ∧ Nx (upd H4 D (.lst (acc ++ [y]))) else Nx H3)
theorem x_lcT {ws : List Nat} (q : tl σ H fun x H1 => rLcT K g tt te ws σ x H1 Q) : tLc (iTup K tl) g tt te ws σ H Q := q
theorem x_rLcT {ws : List Nat} (f : Nat → V) (h : SqT K H a xs) (hz : xs.length ≤ sizeLine) (hw : ∀ x, wipe ((wipe σ ws).set j (some x)) ws = wipe σ ws)
    (he : ∀ (i : Nat) x H1, xs[i]? = some x → Ext H H1 → ∀ Q' : VK, (∀ H2, Ext H1 H2 → Q' (f i) H2) → te ((wipe σ ws).set j (some x)) H1 Q')
    (q : ∀ p H1, H p = none → Ext H H1 → H1 p = some (.lst ((List.range xs.length).map f)) → Q (.ref p) H1) : rLcT K (gName j) tYes te ws σ (.ref a) H Q := by
  refine ⟨a, rfl, ⟨xs, h⟩, fun Dl hD => lc_tup (K := K) (a := a) (xs := xs) (fun i H' => H Dl = none ∧ Ext H H' ∧ H' Dl = some (.lst (gvn i (fun _ => true) f))) ⟨hD, Only'.put0 Only'.refl hD, upd_same⟩
    (fun i H' _ p => SqT.ext p.2.1 h) (fun i x H' hi p => ⟨hw x, lc_turn (tt := tYes) (cb := fun _ => true) p (Nat.lt_of_lt_of_le (List.getElem?_eq_some_iff.mp hi).1 hz) (fun H1 e B k => k H1 Only'.refl) (fun _ H1 e => he i x H1 hi e)⟩) (fun H' p => q Dl H' p.1 p.2.1 (by rw [← gvn_all]; exact p.2.2))⟩
def rLcR (g : TG) (tt : TT) (te : TE) (ws : List Nat) (σ : L2.St) : List V → Hp → VK → Prop := fun vs H1 Q => ∃ j : Int, vs = [.int j] ∧ -(2 ^ 62) ≤ j ∧ j < 2 ^ 62 ∧ ∀ D, H1 D = none → ∃ W : Nat → Nat → Hp → Prop, (∃ m, W 0 m (upd H1 D (.lst []))) ∧ ∀ i m H, W i m H →
  ((Itr 0 j.toNat).stop i H ∧ Q (.ref D) H) ∨ ((Itr 0 j.toNat).go i H ∧ ∃ Nx : Hp → Prop, (∀ H', Nx H' → ∃ m', m' < m ∧ W (i + 1) m' H') ∧ ∀ x H', (Itr 0 j.toNat).yld i H x H' → g x (wipe σ ws) H' fun σ2 H2 => wipe σ2 ws = wipe σ ws ∧ tt σ2 H2 fun b H3 =>
    if b = true then te σ2 H3 fun y H4 => ∃ acc, H4 D = some (.lst acc) ∧ acc.length < sizeLine ∧ Nx (upd H4 D (.lst (acc ++ [y]))) else Nx H3)
theorem x_lcR {ws : List Nat} {ta : TA} (q : ta σ H fun vs H1 => rLcR g tt te ws σ vs H1 Q) : tLc (iRng1 ta) g tt te ws σ H Q := q
theorem x_rLcRT {ws : List Nat} {k : Nat} (cb : Nat → Bool) (f : Nat → V) (hn : n = (k : Int)) (hz : k ≤ 16777216) (hw : ∀ x, wipe ((wipe σ ws).set j (some x)) ws = wipe σ ws)
    (ht : ∀ (i : Nat) H1, i < k → Ext H H1 → ∀ B : Bool → Hp → Prop, (∀ H2, Ext H1 H2 → B (cb i) H2) → tt ((wipe σ ws).set j (some (.int (i : Int)))) H1 B)
    (he : ∀ (i : Nat) H1, i < k → cb i = true → Ext H H1 → ∀ Q' : VK, (∀ H2, Ext H1 H2 → Q' (f i) H2) → te ((wipe σ ws).set j (some (.int (i : Int)))) H1 Q')
    (q : ∀ p H1, H p = none → Ext H H1 → H1 p = some (.lst (gvn k cb f)) → Q (.ref p) H1) : rLcR (gName j) tt te ws σ [.int n] H Q := by
  subst hn
  refine ⟨(k : Int), rfl, by omega, by omega, ?_⟩
  have ek : (k : Int).toNat = k := Int.toNat_natCast k
  rw [ek]
  refine fun Dl hD => lc_range (lo := 0) (n := k) (fun i H' => H Dl = none ∧ Ext H H' ∧ H' Dl = some (.lst (gvn i cb f))) ⟨hD, Only'.put0 Only'.refl hD, upd_same⟩
    (fun i H' hi p => ?_) (fun H' p => q Dl H' p.1 p.2.1 p.2.2)
  rw [Int.zero_add]
  exact ⟨hw _, lc_turn p (by rw [sizeLine_eq]; omega) (fun H1 e => ht i H1 hi e) (fun hc H1 e => he i H1 hi hc e)⟩
theorem x_rLcR {ws : List Nat} {k : Nat} (f : Nat → V) (hn : n = (k : Int)) (hz : k ≤ 16777216) (hw : ∀ x, wipe ((wipe σ ws).set j (some x)) ws = wipe σ ws)
    (he : ∀ (i : Nat) H1, i < k → Ext H H1 → ∀ Q' : VK, (∀ H2, Ext H1 H2 → Q' (f i) H2) → te ((wipe σ ws).set j (some (.int (i : Int)))) H1 Q')
    (q : ∀ p H1, H p = none → Ext H H1 → H1 p = some (.lst ((List.range k).map f)) → Q (.ref p) H1) : rLcR (gName j) tYes te ws σ [.int n] H Q :=
  x_rLcRT (fun _ => true) f hn hz hw (fun i H1 _ _ B k => k H1 Only'.refl) (fun i H1 hi _ e => he i H1 hi e) fun p H1 hp e h1 => q p H1 hp e (by rw [← gvn_all]; exact h1)
end
/-! slices -/
theorem cutV_iV (xs : Row) (lo hi : Option Int) : cutV (iV xs) lo hi = iV ((xs.drop (HT.sIx xs.length 0 lo)).take (HT.sIx xs.length xs.length hi - HT.sIx xs.length 0 lo)) := by
  unfold cutV
  rw [iV_length]
  unfold iV
  rw [← List.map_drop, ← List.map_take]
theorem cut_from {xs : List V} {a : Int} {k : Nat} (h : a = (k : Int)) : cutV xs (some a) none = xs.drop k := by
  subst h
  unfold cutV
  rw [HT.sIx_nat, HT.sIx_none]
  by_cases hk : k ≤ xs.length
  · rw [Nat.min_eq_left hk, List.take_of_length_le (by rw [List.length_drop]; omega)]
  · rw [Nat.min_eq_right (by omega), List.drop_eq_nil_of_le (Nat.le_refl _), List.drop_eq_nil_of_le (by omega)]
    simp
theorem cut_to {xs : List V} {b : Int} {k : Nat} (h : b = (k : Int)) : cutV xs none (some b) = xs.take k := by
  subst h
  unfold cutV
  rw [HT.sIx_nat, HT.sIx_none]
  show xs.take _ = _
  rw [Nat.sub_zero]
  by_cases hk : k ≤ xs.length
  · rw [Nat.min_eq_left hk]
  · rw [Nat.min_eq_right (by omega), List.take_of_length_le (Nat.le_refl _), List.take_of_length_le (by omega)]
theorem cut_both {xs : List V} {a b : Int} {i k : Nat} (h : a = (i : Int)) (h2 : b = (k : Int)) : cutV xs (some a) (some b) = (xs.drop i).take (k - i) := by
  subst h h2
  unfold cutV
  rw [HT.sIx_nat, HT.sIx_nat]
  by_cases hi : i ≤ xs.length
  · rw [Nat.min_eq_left hi]
    by_cases hk : k ≤ xs.length
    · rw [Nat.min_eq_left hk]
    · rw [Nat.min_eq_right (by omega), List.take_of_length_le (by rw [List.length_drop]; omega), List.take_of_length_le (by rw [List.length_drop]; omega)]
  · rw [List.drop_eq_nil_of_le (show xs.length ≤ min i xs.length by omega), List.drop_eq_nil_of_le (show xs.length ≤ i by omega)]
    simp
theorem cut_toN {xs : List V} {k : Nat} (h : 1 ≤ k) : cutV xs none (some (-(k : Int))) = xs.take (xs.length - k) := by
  have e : HT.sIx xs.length xs.length (some (-(k : Int))) = xs.length - k := by
    show (if (-(k : Int)) < 0 then ((-(k : Int)) + (xs.length : Int)).toNat else min (-(k : Int)).toNat xs.length) = _
    rw [if_pos (by omega)]
    omega
  unfold cutV
  rw [e, HT.sIx_none]
  rfl
theorem cut_fromN {xs : List V} {k : Nat} (h : 1 ≤ k) : cutV xs (some (-(k : Int))) none = xs.drop (xs.length - k) := by
  have e : HT.sIx xs.length 0 (some (-(k : Int))) = xs.length - k := by
    show (if (-(k : Int)) < 0 then ((-(k : Int)) + (xs.length : Int)).toNat else min (-(k : Int)).toNat xs.length) = _
    rw [if_pos (by omega)]
    omega
  unfold cutV
  rw [e, HT.sIx_none, List.take_of_length_le (by rw [List.length_drop]; omega)]
/-! texts, tuples -/
section
variable {K : PySem.W.Frag} {H : Hp} {p : Addr} {Q : VK} {xs : List V}
theorem inV_str (b : Str) (ss : List Str) : inV (.str b) (ss.map V.str) = decide (b ∈ ss) := by
  unfold inV
  rw [List.any_map]
  induction ss with
  | nil => rfl
  | cons x r ih =>
    rw [List.any_cons, ih]
    by_cases h : b = x
    · subst h
      simp [Function.comp, eqV]
    · have h' : ¬ x = b := fun z => h z.symm
      simp [Function.comp, eqV, h, h']
theorem x_inS {b : Str} (ss : List Str) (h : SqL K H p (ss.map V.str) ∨ SqT K H p (ss.map V.str)) (q : Q (.bl (decide (b ∈ ss))) H) : rIn K false (.str b) (.ref p) H Q :=
  ⟨p, _, rfl, h, rfl, by rw [List.all_map]; exact List.all_eq_true.mpr fun _ _ => rfl, by rw [inV_str]; exact q⟩
theorem x_slT {lo hi : Option Int} (h : SqT K H p xs) (n : ¬ (HT.sIx xs.length 0 lo = 0 ∧ HT.sIx xs.length xs.length hi = xs.length)) (q : ∀ l, H l = none → Q (.ref l) (upd H l (.tup (cutV xs lo hi)))) : rSlT K (.ref p) lo hi H Q := ⟨p, xs, rfl, h, n, q⟩
theorem x_all {a : Addr} (bs : List Bool) (h : SqL K H a (bs.map V.bl)) (q : Q (.bl (bs.all id)) H) : rAll K [.ref a] H Q := ⟨a, bs, rfl, h, q⟩
end
/-! fields -/
theorem pf_nil {f : Str} {v : V} : putF f v [] = [(f, v)] := rfl
theorem pf_hit {f : Str} {v u : V} {r : List (Str × V)} : putF f v ((f, u) :: r) = (f, v) :: r := by
  show (if f = f then _ else _) = _
  rw [if_pos rfl]
theorem pf_miss {f g : Str} {v u : V} {r r' : List (Str × V)} (h : ¬ g = f) (e : putF f v r = r') : putF f v ((g, u) :: r) = (g, u) :: r' := by
  show (if g = f then _ else (g, u) :: putF f v r) = _
  rw [if_neg h, e]
/-! methods of one class -/
section
variable {P : Program} {w : World} {K : PySem.W.Frag} {mg : Str → Option Value} {base : Heap} {k j : Nat} {f C : Addr} {m : Str} {ps : List Str} {sp : Sp}
theorem meth1 (c : Cls K C) (M : Meth K C m f) (D : DefOk P w K mg base j f ps sp) : ∀ C', C' = C → MethOk P w K mg base j C' m ps ((fun _ => sp) C') := fun C' e => by
  subst e
  exact ⟨c, f, M, D⟩
end
end Flow

/-! the mirror keeps to bytes -/
namespace Flow
theorem bys_nil : Bys [] := fun _ h => nomatch h
theorem bys_cons {b : Int} {r : Row} (h : By b) (hr : Bys r) : Bys (b :: r) := fun x hx => by
  rcases List.mem_cons.mp hx with e | hx
  · rw [e]; exact h
  · exact hr x hx
theorem bys_app {r t : Row} (h : Bys r) (ht : Bys t) : Bys (r ++ t) := fun x hx => by
  rcases List.mem_append.mp hx with hx | hx
  · exact h x hx
  · exact ht x hx
theorem Bys.head {b : Int} {r : Row} (h : Bys (b :: r)) : By b := h b (List.mem_cons_self ..)
theorem Bys.tail {b : Int} {r : Row} (h : Bys (b :: r)) : Bys r := fun x hx => h x (List.mem_cons_of_mem _ hx)
theorem by_mod (a : Int) : By (a % 256) := ⟨Int.emod_nonneg _ (by decide), Int.emod_lt_of_pos _ (by decide)⟩
theorem gI_mem {xs : Row} {i : Int} (h0 : 0 ≤ i) (h : i < (xs.length : Int)) : gI xs i ∈ xs := by
  unfold gI
  have hj : i.toNat < xs.length := by omega
  have e : xs.getD i.toNat 0 = xs[i.toNat] := by simp [List.getD, hj]
  rw [e]
  exact List.getElem_mem hj
theorem signs_by : Bys signsT := by
  intro b hb
  have h : signsT.all (fun b => decide (0 ≤ b) && decide (b < 256)) = true := by decide
  have h2 := List.all_eq_true.mp h b hb
  simp at h2
  exact h2
theorem sign_by {i : Int} (h0 : 0 ≤ i) (h : i < 64) : By (signOf i) := signs_by _ (gI_mem h0 h)
theorem next_in (c b : Int) : 0 ≤ nextCheck c b ∧ nextCheck c b < 65521 := ⟨Int.emod_nonneg _ (by decide), Int.emod_lt_of_pos _ (by decide)⟩
theorem checkBytes_by {c : Int} (h0 : 0 ≤ c) (h : c < 65521) : Bys (checkBytes c) := bys_cons ⟨by omega, by omega⟩ (bys_cons (by_mod c) bys_nil)
theorem pw0 : pow2 0 = 1 := rfl
theorem pw1 : pow2 1 = 2 := rfl
theorem pw2 : pow2 2 = 4 := rfl
theorem pw4 : pow2 4 = 16 := rfl
theorem pw6 : pow2 6 = 64 := rfl
theorem mem_moveFront {row : Row} {k : Nat} (hk : k < row.length) {x : Int} : x ∈ moveFront row k ↔ x ∈ row := by
  unfold moveFront
  have e : row.getD k 0 = row[k] := by simp [List.getD, hk]
  rw [e]
  constructor
  · intro h
    rcases List.mem_cons.mp h with h | h
    · rw [h]; exact List.getElem_mem hk
    · exact List.mem_of_mem_eraseIdx h
  · intro h
    obtain ⟨j, hj, ej⟩ := List.mem_iff_getElem.mp h
    by_cases hjk : j = k
    · subst hjk
      rw [← ej]
      exact List.mem_cons_self ..
    · refine List.mem_cons_of_mem _ ?_
      rw [← ej]
      exact List.mem_eraseIdx_iff_getElem.mpr ⟨j, hj, hjk, rfl⟩
theorem length_moveFront {row : Row} {k : Nat} (hk : k < row.length) : (moveFront row k).length = row.length := by
  unfold moveFront
  rw [List.length_cons, List.length_eraseIdx, if_pos hk]
  omega
theorem wtake_ok {s : WSt} {b : Int} (hs : WOk s) (hb : By b) : WOk (wtake s b).2 ∧ Bys (wtake s b).1 := by
  cases s with
  | add key at_ =>
    obtain ⟨h1, h2, h3, h4, h5⟩ := hs
    refine ⟨⟨h1, h2, h3, Int.emod_nonneg _ (by omega), Int.emod_lt_of_pos _ (by omega)⟩, bys_cons (by_mod _) bys_nil⟩
  | front row =>
    obtain ⟨h1, h2⟩ := hs
    have hlt : row.idxOf b < row.length := List.idxOf_lt_length_of_mem (h2 b hb)
    refine ⟨⟨by rw [length_moveFront hlt]; exact h1, fun x hx => (mem_moveFront hlt).mpr (h2 x hx)⟩, bys_cons ⟨by omega, by omega⟩ bys_nil⟩
  | esc e =>
    refine ⟨hs, ?_⟩
    show Bys (escOut e b)
    unfold escOut
    split
    · exact bys_cons (by_mod _) (bys_cons (by_mod _) bys_nil)
    · split
      · exact bys_cons (by_mod _) (bys_cons (by_mod _) bys_nil)
      · exact bys_cons hb bys_nil
  | runs many byte =>
    obtain ⟨h1, h2, h3⟩ := hs
    show WOk (takeRuns many byte b).2 ∧ Bys (takeRuns many byte b).1
    unfold takeRuns
    split
    · exact ⟨⟨by decide, by decide, hb⟩, bys_cons ⟨h1, by omega⟩ (bys_cons h3 bys_nil)⟩
    · split
      · exact ⟨⟨by decide, by decide, hb⟩, bys_cons ⟨by decide, by decide⟩ (bys_cons hb bys_nil)⟩
      · exact ⟨⟨by omega, by omega, hb⟩, bys_nil⟩
  | chunks size held =>
    obtain ⟨h1, h2, h3, h4⟩ := hs
    show WOk (takeChunks size held b).2 ∧ Bys (takeChunks size held b).1
    unfold takeChunks
    have hl : ((held ++ [b]).length : Int) = held.length + 1 := by simp
    split
    · exact ⟨⟨h1, h2, by simp; omega, bys_nil⟩, bys_cons ⟨by omega, by omega⟩ (bys_app h4 (bys_cons hb bys_nil))⟩
    · exact ⟨⟨h1, h2, by omega, bys_app h4 (bys_cons hb bys_nil)⟩, bys_nil⟩
  | checks size many check =>
    obtain ⟨h1, h2, h3, h4, h5, h6⟩ := hs
    obtain ⟨n1, n2⟩ := next_in check b
    show WOk (takeChecks size many check b).2 ∧ Bys (takeChecks size many check b).1
    unfold takeChecks
    split
    · exact ⟨⟨h1, h2, by omega, by assumption, n1, n2⟩, bys_cons hb bys_nil⟩
    · exact ⟨⟨h1, h2, by omega, by omega, n1, n2⟩, bys_cons hb (checkBytes_by n1 n2)⟩
  | signs many value =>
    obtain ⟨h1, h2, h3⟩ := hs
    obtain ⟨b0, b1⟩ := hb
    show WOk (takeSigns many value b).2 ∧ Bys (takeSigns many value b).1
    unfold takeSigns
    rcases h1 with rfl | rfl | rfl
    · rw [pw0] at h3
      rw [if_neg (by decide)]
      have e : pow2 (0 + 2) = 4 := rfl
      rw [e]
      refine ⟨⟨Or.inr (Or.inl rfl), by omega, by show _ < pow2 2; rw [pw2]; omega⟩, bys_cons (sign_by (by omega) (by omega)) bys_nil⟩
    · rw [pw2] at h3
      rw [if_neg (by decide)]
      have e : pow2 (2 + 2) = 16 := rfl
      rw [e]
      refine ⟨⟨Or.inr (Or.inr rfl), by omega, by show _ < pow2 4; rw [pw4]; omega⟩, bys_cons (sign_by (by omega) (by omega)) bys_nil⟩
    · rw [pw4] at h3
      rw [if_pos (by decide)]
      have e : pow2 (4 + 2) = 64 := rfl
      have e2 : pow2 (4 + 2 - 6) = 1 := rfl
      rw [e, e2]
      refine ⟨⟨Or.inl rfl, by omega, by show _ < pow2 0; rw [pw0]; omega⟩, bys_cons (sign_by (by omega) (by omega)) (bys_cons (sign_by (by omega) (by omega)) bys_nil)⟩
theorem wend_ok {s : WSt} (hs : WOk s) : WOk (wended s) ∧ Bys (wend s) := by
  cases s with
  | add key at_ => exact ⟨hs, bys_nil⟩
  | front row => exact ⟨hs, bys_nil⟩
  | esc e => exact ⟨hs, bys_nil⟩
  | runs many byte =>
    obtain ⟨h1, h2, h3⟩ := hs
    refine ⟨⟨by decide, by decide, h3⟩, ?_⟩
    show Bys (if many = 0 then [] else [many, byte])
    split
    · exact bys_nil
    · exact bys_cons ⟨h1, by omega⟩ (bys_cons h3 bys_nil)
  | chunks size held =>
    obtain ⟨h1, h2, h3, h4⟩ := hs
    exact ⟨⟨h1, h2, by simp; omega, bys_nil⟩, bys_cons ⟨by omega, by omega⟩ h4⟩
  | checks size many check =>
    obtain ⟨h1, h2, h3, h4, h5, h6⟩ := hs
    exact ⟨⟨h1, h2, by omega, by omega, h5, h6⟩, checkBytes_by h5 h6⟩
  | signs many value =>
    obtain ⟨h1, h2, h3⟩ := id hs
    refine ⟨hs, ?_⟩
    show Bys (if many = 0 then [] else _)
    rcases h1 with rfl | rfl | rfl
    · exact bys_nil
    · rw [pw2] at h3
      have e : pow2 (6 - 2) = 16 := rfl
      rw [if_neg (by decide), e]
      exact bys_cons (sign_by (by omega) (by omega)) bys_nil
    · rw [pw4] at h3
      have e : pow2 (6 - 4) = 4 := rfl
      rw [if_neg (by decide), e]
      exact bys_cons (sign_by (by omega) (by omega)) bys_nil
theorem wfeed_ok : ∀ {r : Row} {s : WSt}, WOk s → Bys r → WOk (wfeed s r).2 ∧ Bys (wfeed s r).1
  | [], s, hs, _ => ⟨hs, bys_nil⟩
  | b :: r, s, hs, hr => by
    obtain ⟨h1, h2⟩ := wtake_ok hs hr.head
    obtain ⟨h3, h4⟩ := wfeed_ok (r := r) h1 hr.tail
    exact ⟨h3, bys_app h2 h4⟩
def WOks (ss : List WSt) : Prop := ∀ s, s ∈ ss → WOk s
theorem WOks.head {s : WSt} {ss : List WSt} (h : WOks (s :: ss)) : WOk s := h s (List.mem_cons_self ..)
theorem WOks.tail {s : WSt} {ss : List WSt} (h : WOks (s :: ss)) : WOks ss := fun x hx => h x (List.mem_cons_of_mem _ hx)
theorem woks_cons {s : WSt} {ss : List WSt} (h : WOk s) (h2 : WOks ss) : WOks (s :: ss) := fun x hx => by
  rcases List.mem_cons.mp hx with e | hx
  · rw [e]; exact h
  · exact h2 x hx
theorem wthru_ok : ∀ {ss : List WSt} {r : Row}, WOks ss → Bys r → WOks (wthru ss r).2 ∧ Bys (wthru ss r).1 ∧ (wthru ss r).2.length = ss.length
  | [], r, hs, hr => ⟨hs, hr, rfl⟩
  | s :: ss, r, hs, hr => by
    obtain ⟨h1, h2⟩ := wfeed_ok hs.head hr
    obtain ⟨h3, h4, h5⟩ := wthru_ok (ss := ss) hs.tail h2
    exact ⟨woks_cons h1 h3, h4, congrArg Nat.succ h5⟩
theorem range256_mem {b : Int} (h : By b) : b ∈ range256 := by
  obtain ⟨h0, h1⟩ := h
  unfold range256
  rw [List.mem_map]
  exact ⟨b.toNat, List.mem_range.mpr (by omega), by show ((b.toNat : Nat) : Int) = b; omega⟩
theorem range256_by : Bys range256 := fun b hb => by
  unfold range256 at hb
  obtain ⟨i, hi, rfl⟩ := List.mem_map.mp hb
  have := List.mem_range.mp hi
  show 0 ≤ (i : Int) ∧ (i : Int) < 256
  omega
theorem range256_len : range256.length = 256 := by
  unfold range256
  rw [List.length_map, List.length_range]
theorem newW_ok {l : Lay} (h : l.Ok) : WOk (newW l) := by
  cases l with
  | add key =>
    obtain ⟨h1, h2, h3⟩ := h
    exact ⟨h1, h2, h3, by decide, by omega⟩
  | front => exact ⟨range256_len, fun b hb => range256_mem hb⟩
  | esc b => exact h
  | runs => exact ⟨by decide, by decide, by decide, by decide⟩
  | chunks n => exact ⟨h.1, h.2, by simp; have := h.1; omega, bys_nil⟩
  | checks n => exact ⟨h.1, h.2, by decide, by have := h.1; omega, by decide, by decide⟩
  | signs => exact ⟨Or.inl rfl, by decide, by decide⟩
/-! readers -/
theorem Bys.sub {r t : Row} (h : Bys r) (hs : ∀ x, x ∈ t → x ∈ r) : Bys t := fun x hx => h x (hs x hx)
theorem checkAll_ok : ∀ (c : Int) (r : Row), 0 ≤ c → c < 65521 → 0 ≤ checkAll c r ∧ checkAll c r < 65521
  | _, [], h0, h1 => ⟨h0, h1⟩
  | c, x :: r, _, _ => checkAll_ok (nextCheck c x) r (next_in c x).1 (next_in c x).2
theorem idx_sign {b : Int} (h : b ∈ signsT) : signsT.idxOf b < 64 := List.idxOf_lt_length_of_mem h
theorem rtake_ok {s : RSt} {b : Int} (hs : ROk s) (hb : By b) {row : Row} {s' : RSt} (h : rtake s b = .ok row s') : ROk s' ∧ Bys row := by
  cases s with
  | add key at_ =>
    obtain ⟨h1, h2, h3, h4, h5⟩ := hs
    injection h with e1 e2
    subst e1 e2
    exact ⟨⟨h1, h2, h3, Int.emod_nonneg _ (by omega), Int.emod_lt_of_pos _ (by omega)⟩, bys_cons (by_mod _) bys_nil⟩
  | front r =>
    obtain ⟨h1, h2⟩ := hs
    obtain ⟨b0, b1⟩ := hb
    injection h with e1 e2
    subst e1 e2
    have hk : b.toNat < r.length := by omega
    exact ⟨⟨by rw [length_moveFront hk]; exact h1, fun x hx => h2 x ((mem_moveFront hk).mp hx)⟩, bys_cons (h2 _ (gI_mem b0 (by omega))) bys_nil⟩
  | esc e done marked =>
    simp only [rtake] at h
    split at h
    · split at h
      · injection h with e1 e2
        subst e1 e2
        exact ⟨hs, bys_cons (by_mod _) bys_nil⟩
      · split at h
        · injection h with e1 e2
          subst e1 e2
          exact ⟨hs, bys_cons (by_mod _) bys_nil⟩
        · cases h
    · split at h
      · cases h
      · split at h
        · injection h with e1 e2
          subst e1 e2
          exact ⟨hs, bys_nil⟩
        · injection h with e1 e2
          subst e1 e2
          exact ⟨hs, bys_cons hb bys_nil⟩
  | runs done many lastN lastB =>
    obtain ⟨h1, h2, h3⟩ := hs
    simp only [rtake] at h
    split at h
    · split at h
      · cases h
      · injection h with e1 e2
        subst e1 e2
        exact ⟨⟨hb, h2, h3⟩, bys_nil⟩
    · split at h
      · cases h
      · injection h with e1 e2
        subst e1 e2
        refine ⟨⟨by unfold By; decide, h1, hb⟩, fun x hx => ?_⟩
        rw [List.eq_of_mem_replicate hx]
        exact hb
  | chunks size done left isLast =>
    obtain ⟨h1, h2, h3, h4⟩ := hs
    obtain ⟨b0, b1⟩ := hb
    simp only [rtake] at h
    split at h
    · injection h with e1 e2
      subst e1 e2
      exact ⟨⟨h1, h2, by omega, by omega⟩, bys_cons ⟨b0, b1⟩ bys_nil⟩
    · split at h
      · cases h
      · injection h with e1 e2
        subst e1 e2
        exact ⟨⟨h1, h2, b0, by omega⟩, bys_nil⟩
  | checks size done check held =>
    obtain ⟨h1, h2, h3, h4, h5, h6⟩ := hs
    have hh : Bys (held ++ [b]) := bys_app h6 (bys_cons hb bys_nil)
    simp only [rtake] at h
    have hl : ((held ++ [b]).length : Int) = held.length + 1 := by simp
    split at h
    · split at h
      · injection h with e1 e2
        subst e1 e2
        obtain ⟨c1, c2⟩ := checkAll_ok check (blockRow (held ++ [b])) h3 h4
        exact ⟨⟨h1, h2, c1, c2, by simp; omega, bys_nil⟩, hh.sub fun x hx => List.mem_of_mem_take hx⟩
      · cases h
    · injection h with e1 e2
      subst e1 e2
      exact ⟨⟨h1, h2, h3, h4, by omega, hh⟩, bys_nil⟩
  | signs done many value =>
    obtain ⟨h1, h2, h3⟩ := hs
    simp only [rtake] at h
    split at h
    · rename_i hm
      have hi := idx_sign hm
      split at h
      · rename_i hc
        injection h with e1 e2
        subst e1 e2
        have hm0 : many = 0 := by omega
        subst hm0
        rw [pw0] at h3
        exact ⟨⟨Or.inr (Or.inr (Or.inr rfl)), by omega, by show _ < pow2 6; rw [pw6]; omega⟩, bys_nil⟩
      · rename_i hc
        injection h with e1 e2
        subst e1 e2
        rcases h1 with rfl | rfl | rfl | rfl
        · exact absurd (show (0 : Int) + 6 < 8 by decide) hc
        · rw [pw2] at h3
          rw [show pow2 (2 - 2) = 1 from rfl]
          exact ⟨⟨Or.inl rfl, by omega, by show _ < pow2 0; rw [pw0]; omega⟩, bys_cons ⟨by omega, by omega⟩ bys_nil⟩
        · rw [pw4] at h3
          rw [show pow2 (4 - 2) = 4 from rfl]
          exact ⟨⟨Or.inr (Or.inl rfl), by omega, by show _ < pow2 2; rw [pw2]; omega⟩, bys_cons ⟨by omega, by omega⟩ bys_nil⟩
        · rw [pw6] at h3
          rw [show pow2 (6 - 2) = 16 from rfl]
          exact ⟨⟨Or.inr (Or.inr (Or.inl rfl)), by omega, by show _ < pow2 4; rw [pw4]; omega⟩, bys_cons ⟨by omega, by omega⟩ bys_nil⟩
    · cases h
theorem rend_ok {s : RSt} (hs : ROk s) {row : Row} (h : rend s = .ok row) : Bys row := by
  cases s with
  | add key at_ => injection h with e; subst e; exact bys_nil
  | front r => injection h with e; subst e; exact bys_nil
  | esc e done marked =>
    simp only [rend] at h
    split at h
    · cases h
    · injection h with e; subst e; exact bys_nil
  | runs done many lastN lastB =>
    simp only [rend] at h
    split at h
    · cases h
    · injection h with e; subst e; exact bys_nil
  | chunks size done left isLast =>
    simp only [rend] at h
    split at h
    · cases h
    · injection h with e; subst e; exact bys_nil
  | checks size done check held =>
    obtain ⟨h1, h2, h3, h4, h5, h6⟩ := hs
    simp only [rend] at h
    split at h
    · cases h
    · split at h
      · injection h with e
        subst e
        exact h6.sub fun x hx => List.mem_of_mem_take hx
      · cases h
  | signs done many value =>
    simp only [rend] at h
    split at h
    · cases h
    · split at h
      · cases h
      · injection h with e; subst e; exact bys_nil
theorem newR_ok {l : Lay} (h : l.Ok) : ROk (newR l) := by
  cases l with
  | add key =>
    obtain ⟨h1, h2, h3⟩ := h
    exact ⟨h1, h2, h3, by decide, by omega⟩
  | front => exact ⟨range256_len, range256_by⟩
  | esc b => exact h
  | runs => exact ⟨by unfold By; decide, by unfold By; decide, by unfold By; decide⟩
  | chunks n => exact ⟨h.1, h.2, by decide, by decide⟩
  | checks n => exact ⟨h.1, h.2, by decide, by decide, by simp; have := h.1; omega, bys_nil⟩
  | signs => exact ⟨Or.inl rfl, by decide, by decide⟩
/-- a row of pieces of like bytes -/
def flatR (pcs : List (Nat × Int)) : Row := (pcs.map fun q => List.replicate q.1 q.2).flatten
theorem flatR_snoc (pcs : List (Nat × Int)) (n : Nat) (b : Int) : flatR (pcs ++ [(n, b)]) = flatR pcs ++ List.replicate n b := by
  unfold flatR
  simp
end Flow

/-! parts side by side: objects with what they own, none of them touching another -/
namespace Flow
open PySem PySem.Spec PyProof.Rows L2
def flat : List (Addr × Addr) → List Addr
  | [] => []
  | x :: r => x.1 :: x.2 :: flat r
theorem mem_flat : ∀ {ps : List (Addr × Addr)} {x : Addr}, x ∈ flat ps ↔ ∃ (i : Nat) (p l : Addr), ps[i]? = some (p, l) ∧ (x = p ∨ x = l)
  | [], x => by simp [flat]
  | (p, l) :: r, x => by
    unfold flat
    rw [List.mem_cons, List.mem_cons, mem_flat (ps := r)]
    constructor
    · rintro (h | h | ⟨i, p', l', h, h'⟩)
      · exact ⟨0, p, l, rfl, Or.inl h⟩
      · exact ⟨0, p, l, rfl, Or.inr h⟩
      · exact ⟨i + 1, p', l', h, h'⟩
    · rintro ⟨i, p', l', h, h'⟩
      cases i with
      | zero =>
        have e : (p, l) = (p', l') := Option.some.inj h
        injection e with e1 e2
        subst e1 e2
        rcases h' with h' | h'
        · exact Or.inl h'
        · exact Or.inr (Or.inl h')
      | succ i => exact Or.inr (Or.inr ⟨i, p', l', h, h'⟩)
theorem flat_app : ∀ (a b : List (Addr × Addr)), flat (a ++ b) = flat a ++ flat b
  | [], b => rfl
  | x :: a, b => by
    show x.1 :: x.2 :: flat (a ++ b) = x.1 :: x.2 :: (flat a ++ flat b)
    rw [flat_app a b]
/-- no two places alike -/
theorem nd_set : ∀ {ps : List (Addr × Addr)} {i : Nat} {p l l' : Addr}, (flat ps).Nodup → ps[i]? = some (p, l) → (l' = l ∨ l' ∉ flat ps) → (flat (ps.set i (p, l'))).Nodup
  | [], i, p, l, l', _, h, _ => by simp at h
  | (a, b) :: r, 0, p, l, l', nd, h, hl => by
    have e : (a, b) = (p, l) := Option.some.inj h
    injection e with e1 e2
    subst e1 e2
    show (a :: l' :: flat r).Nodup
    rcases hl with hl | hl
    · rw [hl]; exact nd
    · have nd2 : (a :: b :: flat r).Nodup := nd
      have hl2 : l' ≠ a ∧ l' ≠ b ∧ l' ∉ flat r := by
        have : l' ∉ a :: b :: flat r := hl
        simpa using this
      have h1 := List.nodup_cons.mp nd2
      have h2 := List.nodup_cons.mp h1.2
      refine List.nodup_cons.mpr ⟨?_, List.nodup_cons.mpr ⟨hl2.2.2, h2.2⟩⟩
      intro hm
      rcases List.mem_cons.mp hm with hm | hm
      · exact hl2.1 hm.symm
      · exact h1.1 (List.mem_cons_of_mem _ hm)
  | (a, b) :: r, i + 1, p, l, l', nd, h, hl => by
    have nd2 : (a :: b :: flat r).Nodup := nd
    have h1 := List.nodup_cons.mp nd2
    have h2 := List.nodup_cons.mp h1.2
    have hr : r[i]? = some (p, l) := h
    have hl' : l' = l ∨ l' ∉ flat r := hl.imp id fun z => fun hm => z (List.mem_cons_of_mem _ (List.mem_cons_of_mem _ hm))
    have ih := nd_set h2.2 hr hl'
    have sub : ∀ x, x ∈ flat (r.set i (p, l')) → x ∈ flat r ∨ x = l' := by
      intro x hx
      obtain ⟨j, p2, l2, hj, hx2⟩ := mem_flat.mp hx
      by_cases hji : i = j
      · subst hji
        have hlt : i < r.length := (List.getElem?_eq_some_iff.mp hr).1
        rw [List.getElem?_set_self hlt] at hj
        have e := Option.some.inj hj
        injection e with e1 e2
        subst e1 e2
        rcases hx2 with hx2 | hx2
        · exact Or.inl (mem_flat.mpr ⟨i, _, _, hr, Or.inl hx2⟩)
        · exact Or.inr hx2
      · rw [List.getElem?_set_ne hji] at hj
        exact Or.inl (mem_flat.mpr ⟨j, p2, l2, hj, hx2⟩)
    have lin : l ∈ flat r := mem_flat.mpr ⟨i, p, l, hr, Or.inr rfl⟩
    show (a :: b :: flat (r.set i (p, l'))).Nodup
    have nl : ∀ x, x = a ∨ x = b → x ≠ l' := by
      intro x hx e
      subst e
      rcases hl with hl | hl
      · rw [← hl] at lin
        rcases hx with hx | hx
        · subst hx
          exact h1.1 (List.mem_cons_of_mem _ lin)
        · subst hx
          exact h2.1 lin
      · exact hl (show x ∈ a :: b :: flat r by rcases hx with hx | hx <;> simp [hx])
    refine List.nodup_cons.mpr ⟨fun hm => ?_, List.nodup_cons.mpr ⟨fun hm => ?_, ih⟩⟩
    · rcases List.mem_cons.mp hm with hm | hm
      · exact h1.1 (by rw [hm]; exact List.mem_cons_self ..)
      · rcases sub a hm with hm | hm
        · exact h1.1 (List.mem_cons_of_mem _ hm)
        · exact nl a (Or.inl rfl) hm
    · rcases sub b hm with hm | hm
      · exact h2.1 hm
      · exact nl b (Or.inr rfl) hm
section
variable {S : Type}
structure PartsP (A : Hp → Addr → Addr → S → Prop) : Prop where
  keep : ∀ (H H' : Hp) (p l : Addr) (s : S), A H p l s → (∀ o, H p = some o → H' p = some o) → (∀ o, H l = some o → H' l = some o) → A H' p l s
  trk : ∀ (H : Hp) (p l : Addr) (s : S), A H p l s → (∃ o, H p = some o) ∧ ∃ o, H l = some o
structure Good (A : Hp → Addr → Addr → S → Prop) (H : Hp) (ps : List (Addr × Addr)) (ss : List S) : Prop where
  len : ps.length = ss.length
  at_ : ∀ (i : Nat) (p l : Addr) (s : S), ps[i]? = some (p, l) → ss[i]? = some s → A H p l s
  nd : (flat ps).Nodup
structure Step (A : Hp → Addr → Addr → S → Prop) (X : List Addr) (H : Hp) (ps : List (Addr × Addr)) (ss : List S) (H' : Hp) (ps' : List (Addr × Addr)) (ss' : List S) : Prop where
  good : Good A H' ps' ss'
  fst : ps'.map (·.1) = ps.map (·.1)
  old : ∀ x, x ∈ flat ps' → x ∈ flat ps ∨ H x = none
  only : Only' (X ++ flat ps) H H'
variable {A : Hp → Addr → Addr → S → Prop} {X X' : List Addr} {H H' H1 H2 : Hp} {ps ps1 ps2 : List (Addr × Addr)} {ss ss1 ss2 : List S} {p l l' f : Addr} {s s' : S} {i : Nat} {o : HO}
theorem Good.trk (P : PartsP A) (g : Good A H ps ss) {x : Addr} (hx : x ∈ flat ps) : ∃ o, H x = some o := by
  obtain ⟨i, p, l, h, hx⟩ := mem_flat.mp hx
  have hi : i < ss.length := by rw [← g.len]; exact (List.getElem?_eq_some_iff.mp h).1
  obtain ⟨h1, h2⟩ := P.trk _ _ _ _ (g.at_ i p l _ h (List.getElem?_eq_getElem hi))
  rcases hx with hx | hx
  · rw [hx]; exact h1
  · rw [hx]; exact h2
theorem Good.ext (P : PartsP A) (g : Good A H ps ss) {Z : List Addr} (e : Only' Z H H') (hz : ∀ x, x ∈ flat ps → x ∉ Z) : Good A H' ps ss := by
  refine ⟨g.len, fun i p l s h1 h2 => ?_, g.nd⟩
  exact P.keep H H' p l s (g.at_ i p l s h1 h2) (fun o h => e p o h (hz p (mem_flat.mpr ⟨i, p, l, h1, Or.inl rfl⟩))) (fun o h => e l o h (hz l (mem_flat.mpr ⟨i, p, l, h1, Or.inr rfl⟩)))
theorem Step.refl (g : Good A H ps ss) : Step A X H ps ss H ps ss := ⟨g, rfl, fun x hx => Or.inl hx, Only'.refl⟩
theorem Step.trans (a : Step A X H ps ss H1 ps1 ss1) (b : Step A X H1 ps1 ss1 H2 ps2 ss2) : Step A X H ps ss H2 ps2 ss2 := by
  refine ⟨b.good, b.fst.trans a.fst, fun x hx => ?_, ⟨fun c u hc hn => ?_, fun c u hc => ?_⟩⟩
  · rcases b.old x hx with h | h
    · exact a.old x h
    · exact Or.inr (a.only.free h)
  · have h1 := a.only c u hc hn
    refine b.only c u h1 fun hm => ?_
    rcases List.mem_append.mp hm with hm | hm
    · exact hn (List.mem_append_left _ hm)
    · rcases a.old c hm with h | h
      · exact hn (List.mem_append_right _ h)
      · rw [hc] at h; cases h
  · obtain ⟨u1, h1⟩ := a.only.more c u hc
    exact b.only.more c u1 h1
/-- one part has turned -/
theorem Step.one (P : PartsP A) (g : Good A H ps ss) (hp : ps[i]? = some (p, l)) (hs : ss[i]? = some s) (h : A H' p l' s') (hl : l' = l ∨ H l' = none) (o : Only' [p, l] H H') : Step A X H ps ss H' (ps.set i (p, l')) (ss.set i s') := by
  have hlt : i < ps.length := (List.getElem?_eq_some_iff.mp hp).1
  have hlt2 : i < ss.length := (List.getElem?_eq_some_iff.mp hs).1
  have pin : p ∈ flat ps := mem_flat.mpr ⟨i, p, l, hp, Or.inl rfl⟩
  have lin : l ∈ flat ps := mem_flat.mpr ⟨i, p, l, hp, Or.inr rfl⟩
  have hln : l' = l ∨ l' ∉ flat ps := hl.imp id fun z hm => by
    obtain ⟨u, e⟩ := g.trk P hm
    rw [z] at e
    cases e
  -- two parts do not touch one another
  have apart : ∀ (j : Nat) (q m : Addr), ps[j]? = some (q, m) → j ≠ i → q ∉ [p, l] ∧ m ∉ [p, l] := by
    intro j q m hj hne
    have key : ∀ (ps : List (Addr × Addr)) (i j : Nat), (flat ps).Nodup → ps[i]? = some (p, l) → ps[j]? = some (q, m) → j ≠ i → q ∉ [p, l] ∧ m ∉ [p, l] := by
      intro ps
      induction ps with
      | nil => intro i j _ h; simp at h
      | cons x r ih =>
        intro i j nd hi hj hne
        obtain ⟨a, b⟩ := x
        have nd2 : (a :: b :: flat r).Nodup := nd
        have h1 := List.nodup_cons.mp nd2
        have h2 := List.nodup_cons.mp h1.2
        cases i with
        | zero =>
          cases j with
          | zero => exact absurd rfl hne
          | succ j =>
            have e := Option.some.inj hi
            injection e with e1 e2
            subst e1 e2
            have qin : q ∈ flat r := mem_flat.mpr ⟨j, q, m, hj, Or.inl rfl⟩
            have min : m ∈ flat r := mem_flat.mpr ⟨j, q, m, hj, Or.inr rfl⟩
            have n1 : a ∉ flat r := fun z => h1.1 (List.mem_cons_of_mem _ z)
            refine ⟨?_, ?_⟩
            · intro z
              rcases List.mem_cons.mp z with z | z
              · exact n1 (z ▸ qin)
              · exact h2.1 ((List.mem_singleton.mp z) ▸ qin)
            · intro z
              rcases List.mem_cons.mp z with z | z
              · exact n1 (z ▸ min)
              · exact h2.1 ((List.mem_singleton.mp z) ▸ min)
        | succ i =>
          cases j with
          | zero =>
            have e := Option.some.inj hj
            injection e with e1 e2
            subst e1 e2
            have pin : p ∈ flat r := mem_flat.mpr ⟨i, p, l, hi, Or.inl rfl⟩
            have lin : l ∈ flat r := mem_flat.mpr ⟨i, p, l, hi, Or.inr rfl⟩
            have n1 : a ∉ flat r := fun z => h1.1 (List.mem_cons_of_mem _ z)
            refine ⟨?_, ?_⟩
            · intro z
              rcases List.mem_cons.mp z with z | z
              · exact n1 (z ▸ pin)
              · exact n1 ((List.mem_singleton.mp z) ▸ lin)
            · intro z
              rcases List.mem_cons.mp z with z | z
              · exact h2.1 (z ▸ pin)
              · exact h2.1 ((List.mem_singleton.mp z) ▸ lin)
          | succ j => exact ih i j h2.2 hi hj fun z => hne (congrArg Nat.succ z)
    exact key ps i j g.nd hp hj hne
  refine ⟨⟨?_, fun j q m t h1 h2 => ?_, nd_set g.nd hp hln⟩, ?_, fun x hx => ?_, ?_⟩
  · rw [List.length_set, List.length_set]; exact g.len
  · by_cases hji : i = j
    · subst hji
      rw [List.getElem?_set_self hlt] at h1
      rw [List.getElem?_set_self hlt2] at h2
      have e := Option.some.inj h1
      injection e with e1 e2
      have e3 := Option.some.inj h2
      subst e1 e2 e3
      exact h
    · rw [List.getElem?_set_ne hji] at h1 h2
      obtain ⟨n1, n2⟩ := apart j q m h1 (fun z => hji z.symm)
      exact P.keep H H' q m t (g.at_ j q m t h1 h2) (fun u hu => o q u hu n1) (fun u hu => o m u hu n2)
  · rw [List.map_set]
    refine List.ext_getElem? fun j => ?_
    by_cases hji : i = j
    · subst hji
      rw [List.getElem?_set_self (by rw [List.length_map]; exact hlt), List.getElem?_map, hp]
      rfl
    · rw [List.getElem?_set_ne hji]
  · obtain ⟨j, q, m, hj, hx⟩ := mem_flat.mp hx
    by_cases hji : i = j
    · subst hji
      rw [List.getElem?_set_self hlt] at hj
      have e := Option.some.inj hj
      injection e with e1 e2
      subst e1 e2
      rcases hx with hx | hx
      · rw [hx]; exact Or.inl pin
      · rw [hx]
        rcases hl with z | z
        · rw [z]; exact Or.inl lin
        · exact Or.inr z
    · rw [List.getElem?_set_ne hji] at hj
      exact Or.inl (mem_flat.mpr ⟨j, q, m, hj, hx⟩)
  · refine o.mono fun a ha => List.mem_append_right _ ?_
    rcases List.mem_cons.mp ha with z | z
    · rw [z]; exact pin
    · rw [List.mem_singleton.mp z]; exact lin
/-- one of the X is written -/
theorem Step.put (P : PartsP A) (a : Step A X H ps ss H1 ps1 ss1) (hf : f ∈ X) (n : f ∉ flat ps1) : Step A X H ps ss (upd H1 f o) ps1 ss1 := by
  refine ⟨a.good.ext P (Z := [f]) (Only'.put Only'.refl (List.mem_cons_self ..)) fun x hx hz => n (by rw [← List.mem_singleton.mp hz]; exact hx), a.fst, a.old, a.only.put (List.mem_append_left _ hf)⟩
/-- what stands elsewhere is no part's, behind it either -/
theorem Step.out (a : Step A X H ps ss H1 ps1 ss1) {u : HO} (hf : H f = some u) (n : f ∉ flat ps) : f ∉ flat ps1 := fun hm => by
  rcases a.old f hm with h | h
  · exact n h
  · rw [hf] at h; cases h
/-- something new is laid -/
theorem Step.new (P : PartsP A) (a : Step A X H ps ss H1 ps1 ss1) (hf : H1 f = none) : Step A X H ps ss (upd H1 f o) ps1 ss1 := by
  refine ⟨a.good.ext P (Z := []) (Only'.put0 Only'.refl hf) (fun _ _ h => nomatch h), a.fst, a.old, a.only.put0 (a.only.free hf)⟩
theorem Step.ext (P : PartsP A) (a : Step A X H ps ss H1 ps1 ss1) (e : Only' [] H1 H2) : Step A X H ps ss H2 ps1 ss1 :=
  ⟨a.good.ext P e (fun _ _ h => nomatch h), a.fst, a.old, a.only.trans (e.mono fun _ h => nomatch h)⟩
/-- from an earlier heap on -/
theorem Step.pre (e : Only' X' H H1) (a : Step A X H1 ps ss H2 ps2 ss2) (hx : ∀ x, x ∈ X → x ∈ X' ∨ H x = none) : Step A X' H ps ss H2 ps2 ss2 := by
  refine ⟨a.good, a.fst, fun x hx => (a.old x hx).imp id fun z => e.free z, ⟨fun c u hc hn => ?_, fun c u hc => ?_⟩⟩
  · have h1 := e c u hc fun z => hn (List.mem_append_left _ z)
    refine a.only c u h1 fun hm => ?_
    rcases List.mem_append.mp hm with hm | hm
    · rcases hx c hm with z | z
      · exact hn (List.mem_append_left _ z)
      · rw [hc] at z; cases z
    · exact hn (List.mem_append_right _ hm)
  · obtain ⟨u1, h1⟩ := e.more c u hc
    exact a.only.more c u1 h1
theorem Step.wide (a : Step A X H ps ss H1 ps1 ss1) (hx : ∀ x, x ∈ X → x ∈ X') : Step A X' H ps ss H1 ps1 ss1 := a.pre (X' := X') Only'.refl fun x h => Or.inl (hx x h)
theorem Step.len (a : Step A X H ps ss H1 ps1 ss1) : ps1.length = ps.length := by
  have := congrArg List.length a.fst
  rw [List.length_map, List.length_map] at this
  exact this
end
/-- addresses of parts as values -/
def pV (ps : List (Addr × Addr)) : List V := ps.map fun x => V.ref x.1
theorem pV_fst {ps ps' : List (Addr × Addr)} (h : ps'.map (·.1) = ps.map (·.1)) : pV ps' = pV ps := by
  unfold pV
  have e : ∀ qs : List (Addr × Addr), qs.map (fun x => V.ref x.1) = (qs.map (·.1)).map V.ref := fun qs => by rw [List.map_map] <;> rfl
  rw [e, e, h]
theorem pV_at {ps : List (Addr × Addr)} {i : Nat} {p l : Addr} (h : ps[i]? = some (p, l)) : (pV ps)[i]? = some (V.ref p) := by
  unfold pV
  rw [List.getElem?_map, h] <;> rfl
theorem pV_get {ps : List (Addr × Addr)} {i : Nat} {x : V} (h : (pV ps)[i]? = some x) : ∃ p l, ps[i]? = some (p, l) ∧ x = V.ref p := by
  unfold pV at h
  rw [List.getElem?_map] at h
  cases e : ps[i]? with
  | none => rw [e] at h; cases h
  | some q =>
    rw [e] at h
    exact ⟨q.1, q.2, rfl, (Option.some.inj h).symm⟩
theorem pV_len (ps : List (Addr × Addr)) : (pV ps).length = ps.length := List.length_map ..
end Flow

/-! steps that the laws' own text wants -/
namespace Flow
open PySem PySem.Spec PyProof.Rows L2
/-! rules inside a comprehension, whose reading must not name the block -/
theorem ix_listK {X : Cx} (K : PySem.W.Frag) (h : X.K = K) : IxR X (rIxL K) := h ▸ ix_list
theorem ix_tupK {X : Cx} (K : PySem.W.Frag) (h : X.K = K) : IxR X (rIxT K) := h ▸ ix_tup
theorem op_inK {X : Cx} (K : PySem.W.Frag) (h : X.K = K) : OpR X (compareOp .In) (rIn K false) := h ▸ op_in_seq
theorem op_ninK {X : Cx} (K : PySem.W.Frag) (h : X.K = K) : OpR X (compareOp .NotIn) (rIn K true) := h ▸ op_notIn_seq
theorem sl_listK {X : Cx} (K : PySem.W.Frag) (h : X.K = K) : SlR X (rSlL K) := h ▸ sl_list
theorem sl_tupK {X : Cx} (K : PySem.W.Frag) (h : X.K = K) : SlR X (rSlT K) := h ▸ sl_tup
theorem call_lenK {X : Cx} (K : PySem.W.Frag) (h : X.K = K) : CallR X (.builtin "len") (rLen K) := h ▸ call_lenS
theorem call_isiK2 {X : Cx} (K : PySem.W.Frag) (h : X.K = K) : CallR X (.builtin "isinstance") (rIsi K) := h ▸ call_isi
section
variable {K : PySem.W.Frag} {σ : L2.St} {H : Hp} {ta tb te tv : TE} {t u : TT} {B : Bool → Hp → Prop} {i k : Int} {Q : VK} {p a : Addr} {xs ys vs : List V} {row : Row}
theorem x_tupleOfL (h : SqL K H p ys) (q : ∀ l, H l = none → Q (.ref l) (upd H l (.tup ys))) : rTupleOf K [.ref p] H Q := ⟨p, ys, rfl, Or.inl ⟨h, q⟩⟩
theorem x_truL (h : SqL K H p xs) (q : B (!xs.isEmpty) H) : rTru K (.ref p) H B := ⟨_, Or.inl ⟨xs, h, rfl⟩, q⟩
theorem x_catT (h : SqT K H p xs) (h2 : SqT K H a ys) (hx : xs ≠ []) (hy : ys ≠ []) (hz : xs.length + ys.length ≤ sizeLine) (q : ∀ r, H r = none → Q (.ref r) (upd H r (.tup (xs ++ ys)))) : rCatT K (.ref p) (.ref a) H Q :=
  ⟨p, a, xs, ys, rfl, rfl, h, h2, hx, hz, fun e => absurd e hy, fun _ => q⟩
theorem x_isiI {T : String} {b : Bool} (h : kitB "int" T = some b) (q : Q (.bl b) H) : rIsi K [.int i, .ty T] H Q := ⟨.int i, .ty T, .type "int", .type T, b, rfl, .ty T, .base (.int i), kit_ty h, q⟩
theorem x_isiL {T : String} {b : Bool} (e : H p = some (.lst xs)) (h : kitB "list" T = some b) (q : Q (.bl b) H) : rIsi K [.ref p, .ty T] H Q := ⟨.ref p, .ty T, .type "list", .type T, b, rfl, .ty T, .base (.lst e), kit_ty h, q⟩
theorem x_isiT {T : String} {b : Bool} (e : H p = some (.tup xs)) (h : kitB "tuple" T = some b) (q : Q (.bl b) H) : rIsi K [.ref p, .ty T] H Q := ⟨.ref p, .ty T, .type "tuple", .type T, b, rfl, .ty T, .base (.tup e), kit_ty h, q⟩
theorem x_intB {b : Bool} (q : Q (.int (if b then 1 else 0)) H) : rInt1 [.bl b] H Q := Or.inr ⟨b, rfl, q⟩
theorem x_sum (h : SqL K H a (iV row)) (q : Q (.int row.sum) H) : rSum K [.ref a] H Q := ⟨a, row, rfl, h, q⟩
/-- a list of ints that was just written, at a place -/
theorem x_ixI (row : Row) (h : H p = some (.lst (iV row))) (h0 : 0 ≤ i) (h1 : i < (row.length : Int)) (q : ∀ z, z ∈ row → Q (.int z) H) : rIxL K (.ref p) (.int i) H Q :=
  x_ixL (SqL.of h) (gI_at h0 h1) (q _ (gI_mem h0 h1))
/-- .. of texts -/
theorem x_ixW (ws : List Str) (h : H p = some (.lst (ws.map V.str))) (h0 : 0 ≤ i) (h1 : i < (ws.length : Int)) (q : ∀ z, z ∈ ws → Q (.str z) H) : rIxL K (.ref p) (.int i) H Q := by
  obtain ⟨j, rfl⟩ : ∃ j : Nat, i = (j : Int) := ⟨i.toNat, by omega⟩
  have hj : j < ws.length := by omega
  refine x_ixL (SqL.of h) (at_of rfl (by rw [List.getElem?_map, List.getElem?_eq_getElem hj]; rfl)) (q _ (List.getElem_mem hj))
/-- .. of anything -/
theorem x_ixV (vs : List V) (h : H p = some (.lst vs)) (h0 : 0 ≤ i) (h1 : i < (vs.length : Int)) (q : ∀ z, z ∈ vs → Q z H) : rIxL K (.ref p) (.int i) H Q := by
  obtain ⟨j, rfl⟩ : ∃ j : Nat, i = (j : Int) := ⟨i.toNat, by omega⟩
  have hj : j < vs.length := by omega
  exact x_ixL (SqL.of h) (at_of rfl (List.getElem?_eq_getElem hj)) (q _ (List.getElem_mem hj))
def rRg2 (σ : L2.St) (tb : TE) (k : Int → Int → Hp → Prop) : V → Hp → Prop := fun x H1 => tb σ H1 fun y H2 => ∃ i j, x = .int i ∧ y = .int j ∧ k i j H2
theorem x_lstRg2 (q : ta σ H fun x H1 => tb σ H1 fun y H2 => ∃ i j, x = .int i ∧ y = .int j ∧ RgOk i j ∧ ∀ q, H2 q = none → Q (.ref q) (upd H2 q (.lst (rgV i j)))) : tLstRg (tRg2 ta tb) σ H Q := q
theorem x_forR1b {j : Int} (h : V.int j = V.int i) : j = i := V.int.inj h
theorem by_in {z : Int} {row : Row} (h : Bys row) (hz : z ∈ row) : By z := h z hz
end
end Flow

/-! rows, layers and what is told, as data that may be compared -/
namespace Flow
open PySem PySem.Spec PyProof.Rows L2
theorem keep {H : Hp} {a b : Addr} {o u : HO} (h : H b = some u) (n : H a = none) : upd H a o b = some u := upd_get (ne_of_none h n) h
def rowD (r : Row) : PyData := .list (r.map .int)
theorem lay_ints : ∀ r : Row, PyData.canLayAll0 (r.map .int) = true
  | [] => by simp [PyData.canLayAll0]
  | x :: r => by simp [PyData.canLayAll0, PyData.canLay0, lay_ints r]
theorem depth_ints : ∀ r : Row, PyData.depthAll (r.map .int) = 0
  | [] => by simp [PyData.depthAll]
  | x :: r => by simp [PyData.depthAll, PyData.depth, depth_ints r]
theorem shaped_of {d : PyData} (h : d.canLay0 = true) (h2 : d.depth ≤ 64) : SeqAt.shaped d = true := by
  show (d.canLay0 && decide (d.depth ≤ 64)) = true
  rw [h, decide_eq_true h2]
  rfl
theorem row_shaped (r : Row) : SeqAt.shaped (rowD r) = true := shaped_of (by simp only [rowD, PyData.canLay0]; exact lay_ints r) (by simp only [rowD, PyData.depth]; rw [depth_ints]; decide)
theorem eqv_ints : ∀ a b : Row, PyData.eqvAll (a.map .int) (b.map .int) = decide (a = b)
  | [], [] => by simp [PyData.eqvAll]
  | [], y :: b => by simp [PyData.eqvAll]
  | x :: a, [] => by simp [PyData.eqvAll]
  | x :: a, y :: b => by
    have ih := eqv_ints a b
    have e : PyData.eqvAll ((x :: a).map .int) ((y :: b).map .int) = ((x == y) && PyData.eqvAll (a.map .int) (b.map .int)) := by simp only [List.map_cons, PyData.eqvAll, PyData.eqv]
    rw [e, ih]
    by_cases h : x = y
    · subst h
      simp
    · simp [h]
theorem row_eqv (a b : Row) : PyData.eqv (rowD a) (rowD b) = decide (a = b) := by
  have e : PyData.eqv (rowD a) (rowD b) = PyData.eqvAll (a.map .int) (b.map .int) := by simp only [rowD, PyData.eqv]
  rw [e, eqv_ints]
section
variable {K : PySem.W.Frag} {H : Hp} {a : Addr} {r : Row}
theorem dp_ints : ∀ r : Row, DpAll K H (iV r) (r.map .int)
  | [] => .nil
  | x :: r => .cons (.int x) (dp_ints r)
theorem dp_row (h : SqL K H a (iV r)) : Dp K H (.ref a) (rowD r) := .lst h (dp_ints r)
def layD (ly : Lay) : PyData := .tuple (.str (lk ly) :: (la ly).map .int)
where
  lk : Lay → Str
    | .add _ => "add"
    | .front => "front"
    | .esc _ => "escape"
    | .runs => "runs"
    | .chunks _ => "chunks"
    | .checks _ => "checks"
    | .signs => "signs"
  la : Lay → Row
    | .add key => key
    | .front => []
    | .esc b => [b]
    | .runs => []
    | .chunks n => [n]
    | .checks n => [n]
    | .signs => []
theorem lk_ok (ly : Lay) : PyData.strOk (layD.lk ly) = true := by
  cases ly
  · show PyData.strOk ("add" : Str) = true
    decide +kernel
  · decide +kernel
  · show PyData.strOk ("escape" : Str) = true
    decide +kernel
  · decide +kernel
  · show PyData.strOk ("chunks" : Str) = true
    decide +kernel
  · show PyData.strOk ("checks" : Str) = true
    decide +kernel
  · decide +kernel
theorem layD_lay (ly : Lay) : (layD ly).canLay0 = true := by
  unfold layD
  simp only [PyData.canLay0, PyData.canLayAll0]
  rw [lk_ok, lay_ints]
  rfl
theorem layD_depth (ly : Lay) : (layD ly).depth = 1 := by
  unfold layD
  simp only [PyData.depth, PyData.depthAll]
  rw [depth_ints]
  decide
theorem dp_lay {ly : Lay} (h : SqT K H a (.str (layD.lk ly) :: iV (layD.la ly))) : Dp K H (.ref a) (layD ly) := .tup h (.cons (.str _) (dp_ints _))
def laysD (l : List Lay) : PyData := .list (l.map layD)
theorem laysD_lay : ∀ l : List Lay, PyData.canLayAll0 (l.map layD) = true
  | [] => by simp [PyData.canLayAll0]
  | x :: l => by simp [PyData.canLayAll0, layD_lay x, laysD_lay l]
theorem laysD_depth : ∀ l : List Lay, PyData.depthAll (l.map layD) ≤ 1
  | [] => by simp [PyData.depthAll]
  | x :: l => by
    have h1 := laysD_depth l
    have h2 := layD_depth x
    simp only [List.map_cons, PyData.depthAll]
    omega
theorem lays_shaped (l : List Lay) : SeqAt.shaped (laysD l) = true := by
  refine shaped_of (by simp only [laysD, PyData.canLay0]; exact laysD_lay l) ?_
  have := laysD_depth l
  simp only [laysD, PyData.depth]
  omega
theorem dp_lays : ∀ {ts : List Addr} {l : List Lay}, ts.length = l.length → (∀ (i : Nat) (t : Addr) (ly : Lay), ts[i]? = some t → l[i]? = some ly → SqT K H t (.str (layD.lk ly) :: iV (layD.la ly))) → DpAll K H (ts.map V.ref) (l.map layD)
  | [], [], _, _ => .nil
  | [], _ :: _, h, _ => by simp at h
  | _ :: _, [], h, _ => by simp at h
  | t :: ts, ly :: l, h, g => .cons (dp_lay (g 0 t ly rfl rfl)) (dp_lays (by simpa using h) fun i u x h1 h2 => g (i + 1) u x h1 h2)
/-- a row of layers beside an empty list -/
theorem lays_nil (l : List Lay) : PyData.eqv (laysD l) (.list []) = decide (l = []) := by
  cases l with
  | nil => simp [laysD, PyData.eqv, PyData.eqvAll]
  | cons x r =>
    rw [decide_eq_false (by intro z; cases z)]
    simp [laysD, PyData.eqv, PyData.eqvAll]
theorem nil_shaped : SeqAt.shaped (.list []) = true := row_shaped []
theorem dp_nil (h : SqL K H a []) : Dp K H (.ref a) (.list []) := .lst h .nil
theorem x_eqD {x y : V} {d e : PyData} {Q : VK} (h1 : Dp K H x d) (h2 : Dp K H y e) (s1 : SeqAt.shaped d = true) (s2 : SeqAt.shaped e = true) (q : Q (.bl (PyData.eqv d e)) H) : rEqD K x y H Q := ⟨d, e, h1, h2, s1, s2, q⟩
theorem x_neD {x y : V} {d e : PyData} {Q : VK} (h1 : Dp K H x d) (h2 : Dp K H y e) (s1 : SeqAt.shaped d = true) (s2 : SeqAt.shaped e = true) (q : Q (.bl (!PyData.eqv d e)) H) : rNeD K x y H Q := ⟨d, e, h1, h2, s1, s2, q⟩
end
end Flow

/-! the end: the law's own def; a try as one reading -/
namespace Flow
open PySem PySem.Spec PyProof.Rows L2
def tTryE (K : PySem.W.Frag) (l : List Clause) (tb : WX → TS) : TS := fun D σ H => tb (wEach K (fun _ _ _ _ => False) D l) D σ H
theorem ps_try0 {X : Cx} {body : List Stmt} {h₀ : ExceptHandler} {hds : List ExceptHandler} {l : List Clause} {pos : Pos} {tb : WX → TS} (hs : X.stack = X.env :: X.outer) (hf : X.env.frame = some X.env.locals) (tk : Takes X (fun _ _ _ _ => False))
    (hh : Clauses X (h₀ :: hds) l) (hb : ∀ (W : WX) (pn : List (Addr × Obj)) (xe : Value → Shared → Prop), Takes (X.tr pn xe) W → PassesOwn (model X.prog X.w) X.A X.env xe → PSs (X.tr pn xe) body (tb W)) :
    PS X (.Try body (h₀ :: hds) [] [] pos) (tTryE X.K l tb) := ps_try_each hs hf tk hb hh
/-! a body with a try, piece by piece -/
section
variable {X : Cx} {s : Stmt} {ss : List Stmt} {R : TS → Prop} {t1 u : TS}
theorem drv_go {D : Ends} {σ0 : L2.St} {H : Hp} (h : ∃ t, PSs X ss t ∧ (fun t : TS => t D σ0 H) t) : ∃ (t : TS) (σ : L2.St), PSs X ss t ∧ σ = σ0 ∧ t D σ H := by
  obtain ⟨t, a, b⟩ := h
  exact ⟨t, σ0, a, rfl, b⟩
theorem drv_cons (h1 : PS X s t1) (h : ∃ u, PSs X ss u ∧ (fun u => R (tSeq t1 u)) u) : ∃ t, PSs X (s :: ss) t ∧ R t := by
  obtain ⟨u, a, b⟩ := h
  exact ⟨_, pss_cons h1 a, b⟩
theorem drv_end (h : PSs X ss u) (r : R u) : ∃ t, PSs X ss t ∧ R t := ⟨u, h, r⟩
end
/-- a tuple of the text's top that bears no dict -/
def tupNB (K : PySem.W.Frag) (x : Str) : Bool := match K.lookup (He.ga K x) with
  | some ⟨.type c, none, _, _⟩ => decide (c = "tuple")
  | _ => false
theorem tupNB_ok {K : PySem.W.Frag} {x : Str} (h : tupNB K x = true) : ∃ o, K.lookup (He.ga K x) = some o ∧ o.cls = .type "tuple" ∧ o.dict = none := by
  unfold tupNB at h
  split at h
  · rename_i c _ _ e
    exact ⟨_, e, congrArg Value.type (of_decide_eq_true h), rfl⟩
  · cases h
section
variable {P : Program} {w : World} {K : PySem.W.Frag} {mg : Str → Option Value} {base : Heap} {k : Nat} {f : Addr} {ps : List Str} {sp : Sp} {fd : FuncData}
/-- the law's def, its function object at hand -/
theorem law_ok {x qual : Str} {st : Stmt} {N : List Str} (F : FunD K x qual (defArgs st) (defBody st) (defScope st) [] [] f fd) (S : FnScope N ps (defScope st))
    (len : ∀ vs H Q E, sp vs H Q E → vs.length = ps.length)
    (go : ∀ (cdv : Value) (A : Around) (outer : List Env) (s : Shared) (H : Hp) (vs : List V) (Q : VK) (E : XK), Room k (A.deeper (envOfC qual (defScope st) s.heap.objs.size f cdv)) → sp vs H Q E →
      ∃ (t : TS) (σ : L2.St), PSs (cxOf (L2.CX P w) P w K mg base N qual (defScope st) f cdv A outer s H E) (defBody st) t ∧ σ = start N vs ∧ t { nx := fun _ H' => Q .non H', rt := Q } σ H) : FnOk P w K mg base (L2.CX P w) (k + 1) f fd ps sp :=
  F.ok S len fun cdv A outer s H vs Q E hr h => by
    obtain ⟨t, σ, a, e, b⟩ := go cdv A outer s H vs Q E hr h
    subst e
    exact ⟨t, a, b⟩
/-- a promise that lets nothing through -/
theorem nox (F : FnOk P w K mg base (L2.CX P w) k f fd ps sp) : FnOk P w K mg base CX0 k f fd ps (fun vs H Q _ => sp vs H Q E0) := by
  refine ⟨fun vs H Q _ h => F.len vs H Q E0 h, fun A outer s H args us vs Q E hr he hb hv h => ?_⟩
  refine codeAny_mono (F.run A outer s H args us vs Q E0 hr he hb hv h) fun r s' c => ?_
  cases r with
  | error e =>
    obtain ⟨_, _, _, _, _, _, _, _, _, _, _, _, z⟩ := c
    exact z.elim
  | ok fl => cases fl <;> exact c
end
end Flow

/-! plain: a stream is one layer's over the stream of the layers ahead; sizes -/
namespace Flow
def wfin (s : WSt) (r : Row) : Row := (wfeed s r).1 ++ wend (wfeed s r).2
theorem wfeed_app : ∀ (s : WSt) (x y : Row), wfeed s (x ++ y) = ((wfeed s x).1 ++ (wfeed (wfeed s x).2 y).1, (wfeed (wfeed s x).2 y).2)
  | s, [], y => rfl
  | s, b :: x, y => by
    show ((wtake s b).1 ++ (wfeed (wtake s b).2 (x ++ y)).1, (wfeed (wtake s b).2 (x ++ y)).2) = _
    rw [wfeed_app (wtake s b).2 x y]
    show (_ ++ (_ ++ _), _) = ((_ ++ _) ++ _, _)
    rw [List.append_assoc]
    rfl
theorem wthru_snoc : ∀ (ss : List WSt) (s : WSt) (r : Row), wthru (ss ++ [s]) r = ((wfeed s (wthru ss r).1).1, (wthru ss r).2 ++ [(wfeed s (wthru ss r).1).2])
  | [], s, r => rfl
  | t :: ss, s, r => by
    show ((wthru (ss ++ [s]) (wfeed t r).1).1, (wfeed t r).2 :: (wthru (ss ++ [s]) (wfeed t r).1).2) = _
    rw [wthru_snoc ss s (wfeed t r).1]
    rfl
theorem wthru_len : ∀ (ss : List WSt) (r : Row), (wthru ss r).2.length = ss.length
  | [], _ => rfl
  | s :: ss, r => congrArg Nat.succ (wthru_len ss (wfeed s r).1)
theorem wfin_app (s : WSt) (x y : Row) : wfin s (x ++ y) = (wfeed s x).1 ++ wfin (wfeed s x).2 y := by
  unfold wfin
  rw [wfeed_app, List.append_assoc]
theorem wendAll_snoc : ∀ (n : Nat) (ss : List WSt) (s : WSt), ss.length = n → wendAll (n + 1) (ss ++ [s]) = wfin s (wendAll n ss)
  | 0, [], s, _ => by
    show wend s ++ [] = [] ++ wend s
    simp
  | n + 1, t :: ss, s, h => by
    have hl : ss.length = n := by simpa using h
    show (wthru (ss ++ [s]) (wend t)).1 ++ wendAll (n + 1) (wthru (ss ++ [s]) (wend t)).2 = wfin s ((wthru ss (wend t)).1 ++ wendAll n (wthru ss (wend t)).2)
    rw [wthru_snoc, wfin_app, wendAll_snoc n (wthru ss (wend t)).2 _ (by rw [wthru_len, hl])]
theorem written_snoc (lays : List Lay) (ly : Lay) (row : Row) : written (lays ++ [ly]) row = wfin (newW ly) (written lays row) := by
  unfold written
  rw [List.map_append, List.length_append]
  show (wthru (lays.map newW ++ [newW ly]) row).1 ++ wendAll (lays.length + 1) (wthru (lays.map newW ++ [newW ly]) row).2 = _
  rw [wthru_snoc, wfin_app, wendAll_snoc lays.length (wthru (lays.map newW) row).2 _ (by rw [wthru_len, List.length_map])]
theorem written_nil (row : Row) : written [] row = row := List.append_nil row
/-! sizes -/
def pot : WSt → Nat
  | .chunks _ held => held.length
  | _ => 0
theorem wtake_len (s : WSt) (b : Int) : (wtake s b).1.length + pot (wtake s b).2 ≤ pot s + 3 := by
  cases s with
  | add key at_ => simp [wtake, takeAdd, pot]
  | front row => simp [wtake, takeFront, pot]
  | esc e =>
    simp only [wtake, escOut, pot]
    split
    · simp
    · split <;> simp
  | runs many byte =>
    simp only [wtake, takeRuns]
    split
    · simp [pot]
    · split <;> simp [pot]
  | chunks size held =>
    simp only [wtake, takeChunks]
    split
    · simp [pot]
    · simp [pot] <;> omega
  | checks size many check =>
    simp only [wtake, takeChecks]
    split <;> simp [pot, checkBytes]
  | signs many value =>
    simp only [wtake, takeSigns]
    split <;> simp [pot]
theorem wfeed_len : ∀ (s : WSt) (r : Row), (wfeed s r).1.length + pot (wfeed s r).2 ≤ pot s + 3 * r.length
  | s, [] => by simp [wfeed]
  | s, b :: r => by
    have h1 := wtake_len s b
    have h2 := wfeed_len (wtake s b).2 r
    show ((wtake s b).1 ++ (wfeed (wtake s b).2 r).1).length + pot (wfeed (wtake s b).2 r).2 ≤ _
    rw [List.length_append, List.length_cons]
    omega
theorem wend_len (s : WSt) : (wend s).length ≤ pot s + 2 := by
  cases s <;> simp only [wend, pot] <;> try simp
  · split <;> simp
  · simp [checkBytes]
  · split <;> simp
theorem pot_ok {s : WSt} (h : WOk s) : pot s ≤ 254 := by
  cases s <;> simp only [pot] <;> try omega
  obtain ⟨h1, h2, h3, h4⟩ := h
  omega
def bnd : Nat → Nat → Nat
  | 0, n => n
  | k + 1, n => bnd k (3 * n + 255)
theorem bnd_mono : ∀ (k : Nat) {a b : Nat}, a ≤ b → bnd k a ≤ bnd k b
  | 0, _, _, h => h
  | k + 1, _, _, h => bnd_mono k (by omega)
theorem bnd_le : ∀ (k n : Nat), n ≤ bnd k n
  | 0, n => Nat.le_refl n
  | k + 1, n => Nat.le_trans (by omega) (bnd_le k (3 * n + 255))
theorem bnd_more : ∀ {k k' : Nat} (n : Nat), k ≤ k' → bnd k n ≤ bnd k' n
  | 0, k', n, _ => bnd_le k' n
  | k + 1, 0, n, h => by omega
  | k + 1, k' + 1, n, h => bnd_more (k := k) (k' := k') (3 * n + 255) (by omega)
theorem wthru_fits : ∀ (ss : List WSt) (r : Row), WOks ss → Bys r → bnd ss.length r.length ≤ 16777216 → WFits ss r ∧ (wthru ss r).1.length ≤ bnd ss.length r.length
  | [], r, _, _, h => ⟨h, Nat.le_refl _⟩
  | s :: ss, r, hk, hb, h => by
    have h1 := wfeed_len s r
    have h2 := pot_ok hk.head
    have ⟨k1, b1⟩ := wfeed_ok hk.head hb
    have hm : bnd ss.length (wfeed s r).1.length ≤ bnd (ss.length + 1) r.length := bnd_mono ss.length (by omega)
    have hh : bnd (ss.length + 1) r.length ≤ 16777216 := h
    have ih := wthru_fits ss (wfeed s r).1 hk.tail b1 (by omega)
    have h0 := bnd_le (ss.length + 1) r.length
    exact ⟨⟨by omega, ih.1⟩, Nat.le_trans ih.2 hm⟩
theorem wend_fits : ∀ (n : Nat) (ss : List WSt), WOks ss → ss.length = n → n ≤ 8 → WEndFits n ss ∧ (wendAll n ss).length ≤ n * 840774
  | 0, _, _, _, _ => ⟨trivial, Nat.zero_le _⟩
  | n + 1, [], _, h, _ => by simp at h
  | n + 1, s :: ss, hk, h, h8 => by
    have hl : ss.length = n := by simpa using h
    have h1 := wend_len s
    have h2 := pot_ok hk.head
    have ⟨k1, b1⟩ := wend_ok hk.head
    have hb : bnd ss.length (wend s).length ≤ 840774 := by
      refine Nat.le_trans (bnd_mono _ (show (wend s).length ≤ 257 by omega)) ?_
      refine Nat.le_trans (bnd_more 257 (show ss.length ≤ 7 by omega)) ?_
      decide
    have ⟨f1, f2⟩ := wthru_fits ss (wend s) hk.tail b1 (by omega)
    have ⟨k2, b2, _⟩ := wthru_ok (ss := ss) (r := wend s) hk.tail b1
    have ih := wend_fits n (wthru ss (wend s)).2 k2 (by rw [wthru_len, hl]) (by omega)
    refine ⟨⟨f1, ih.1⟩, ?_⟩
    show ((wthru ss (wend s)).1 ++ wendAll n (wthru ss (wend s)).2).length ≤ _
    rw [List.length_append]
    have := ih.2
    omega
/-- .. closer -/
def ebd : Nat → Nat
  | 0 => 0
  | n + 1 => bnd n 257 + ebd n
theorem ebd_mono : ∀ {a b : Nat}, a ≤ b → ebd a ≤ ebd b
  | a, 0, h => by
    have e : a = 0 := by omega
    subst e
    exact Nat.le_refl _
  | a, b + 1, h => by
    by_cases e : a = b + 1
    · subst e
      exact Nat.le_refl _
    · exact Nat.le_trans (ebd_mono (a := a) (b := b) (by omega)) (Nat.le_add_left _ _)
theorem wend_short : ∀ (n : Nat) (ss : List WSt), WOks ss → ss.length = n → n ≤ 8 → (wendAll n ss).length ≤ ebd n
  | 0, _, _, _, _ => Nat.le_refl _
  | n + 1, [], _, h, _ => by simp at h
  | n + 1, s :: ss, hk, h, h8 => by
    have hl : ss.length = n := by simpa using h
    have h1 := wend_len s
    have h2 := pot_ok hk.head
    have ⟨k1, b1⟩ := wend_ok hk.head
    have hb : bnd ss.length (wend s).length ≤ bnd n 257 := by
      rw [hl]
      exact bnd_mono n (by omega)
    have hb2 : bnd n 257 ≤ 840774 := by
      refine Nat.le_trans (bnd_more 257 (show n ≤ 7 by omega)) ?_
      decide
    have ⟨f1, f2⟩ := wthru_fits ss (wend s) hk.tail b1 (by omega)
    have ⟨k2, b2, _⟩ := wthru_ok (ss := ss) (r := wend s) hk.tail b1
    have ih := wend_short n (wthru ss (wend s)).2 k2 (by rw [wthru_len, hl]) (by omega)
    show ((wthru ss (wend s)).1 ++ wendAll n (wthru ss (wend s)).2).length ≤ bnd n 257 + ebd n
    rw [List.length_append]
    omega
theorem newW_oks {lays : List Lay} (h : ∀ ly, ly ∈ lays → ly.Ok) : WOks (lays.map newW) := fun s hs => by
  obtain ⟨ly, hly, rfl⟩ := List.mem_map.mp hs
  exact newW_ok (h ly hly)
theorem written_fits {lays : List Lay} {row : Row} (h : ∀ ly, ly ∈ lays → ly.Ok) (h8 : lays.length ≤ 8) (hb : Bys row) (hr : row.length ≤ 400) :
    WFits (lays.map newW) row ∧ WEndFits lays.length (wthru (lays.map newW) row).2 ∧ (written lays row).length ≤ 16777216 := by
  have hk := newW_oks h
  have hbd : bnd (lays.map newW).length row.length ≤ 4000000 := by
    rw [List.length_map]
    refine Nat.le_trans (bnd_mono _ hr) (Nat.le_trans (bnd_more 400 h8) ?_)
    decide
  have ⟨f1, f2⟩ := wthru_fits _ row hk hb (by omega)
  have ⟨k2, b2, _⟩ := wthru_ok (ss := lays.map newW) (r := row) hk hb
  have ⟨g1, g2⟩ := wend_fits lays.length (wthru (lays.map newW) row).2 k2 (by rw [wthru_len, List.length_map]) h8
  refine ⟨f1, g1, ?_⟩
  unfold written
  rw [List.length_append]
  omega
theorem written_short {lays : List Lay} {row : Row} (h : ∀ ly, ly ∈ lays → ly.Ok) (h8 : lays.length ≤ 8) (hb : Bys row) (hr : bnd lays.length row.length ≤ 4000000) : (written lays row).length ≤ bnd lays.length row.length + ebd lays.length := by
  have hk := newW_oks h
  have ⟨f1, f2⟩ := wthru_fits (lays.map newW) row hk hb (by rw [List.length_map]; omega)
  have ⟨k2, b2, _⟩ := wthru_ok (ss := lays.map newW) (r := row) hk hb
  have g2 := wend_short lays.length (wthru (lays.map newW) row).2 k2 (by rw [wthru_len, List.length_map]) h8
  rw [List.length_map] at f2
  unfold written
  rw [List.length_append]
  omega
theorem wendAll_by : ∀ (n : Nat) (ss : List WSt), WOks ss → Bys (wendAll n ss)
  | 0, _, _ => bys_nil
  | n + 1, [], _ => bys_nil
  | n + 1, s :: ss, hk => by
    have ⟨k1, b1⟩ := wend_ok hk.head
    have ⟨k2, b2, _⟩ := wthru_ok (ss := ss) (r := wend s) hk.tail b1
    exact bys_app b2 (wendAll_by n _ k2)
theorem written_by {lays : List Lay} {row : Row} (h : ∀ ly, ly ∈ lays → ly.Ok) (hb : Bys row) : Bys (written lays row) := by
  have ⟨k2, b2, _⟩ := wthru_ok (ss := lays.map newW) (r := row) (newW_oks h) hb
  exact bys_app b2 (wendAll_by _ _ k2)
end Flow

/-! plain: what comes of each byte, and at the end, as the laws' own writing tells it -/
namespace Flow
def outs0 : WSt → Row → List Row
  | _, [] => []
  | s, b :: r => (wtake s b).1 :: outs0 (wtake s b).2 r
def outs (s : WSt) (r : Row) : List Row := outs0 s r ++ [wend (wfeed s r).2]
theorem outs0_flat : ∀ (s : WSt) (r : Row), (outs0 s r).flatten = (wfeed s r).1
  | s, [] => rfl
  | s, b :: r => by
    show (wtake s b).1 ++ (outs0 (wtake s b).2 r).flatten = (wtake s b).1 ++ (wfeed (wtake s b).2 r).1
    rw [outs0_flat]
theorem outs_flat (s : WSt) (r : Row) : (outs s r).flatten = wfin s r := by
  unfold outs wfin
  rw [List.flatten_append, outs0_flat]
  show _ ++ (wend _ ++ []) = _
  rw [List.append_nil]
theorem outs0_len : ∀ (s : WSt) (r : Row), (outs0 s r).length = r.length
  | _, [] => rfl
  | s, b :: r => congrArg Nat.succ (outs0_len (wtake s b).2 r)
def stAt (s : WSt) (r : Row) (i : Nat) : WSt := (wfeed s (r.take i)).2
def outAt (s : WSt) (r : Row) (i : Nat) : Row := (wtake (stAt s r i) (gI r (i : Int))).1
theorem gI_cons (b : Int) (r : Row) (i : Nat) : gI (b :: r) ((i + 1 : Nat) : Int) = gI r (i : Int) := by
  unfold gI
  rw [Int.toNat_natCast, Int.toNat_natCast]
  rfl
theorem outs0_at : ∀ (s : WSt) (r : Row), outs0 s r = (List.range r.length).map (outAt s r)
  | _, [] => rfl
  | s, b :: r => by
    show (wtake s b).1 :: outs0 (wtake s b).2 r = _
    rw [List.length_cons, List.range_succ_eq_map, List.map_cons, List.map_map, outs0_at (wtake s b).2 r]
    refine congrArg (List.cons _) (List.map_congr_left fun i _ => ?_)
    show (wtake (stAt (wtake s b).2 r i) (gI r (i : Int))).1 = (wtake (stAt (wtake s b).2 r i) (gI (b :: r) ((i + 1 : Nat) : Int))).1
    rw [gI_cons]
theorem stAt_zero (s : WSt) (r : Row) : stAt s r 0 = s := rfl
theorem stAt_all (s : WSt) (r : Row) : stAt s r r.length = (wfeed s r).2 := by
  unfold stAt
  rw [List.take_length]
theorem take_snoc {r : Row} {i : Nat} (h : i < r.length) : r.take (i + 1) = r.take i ++ [gI r (i : Int)] := by
  rw [List.take_succ_eq_append_getElem h]
  unfold gI
  rw [Int.toNat_natCast, List.getD_eq_getElem?_getD, List.getElem?_eq_getElem h]
  rfl
theorem stAt_succ {s : WSt} {r : Row} {i : Nat} (h : i < r.length) : stAt s r (i + 1) = (wtake (stAt s r i) (gI r (i : Int))).2 := by
  unfold stAt
  rw [take_snoc h, wfeed_app]
  rfl
theorem outs_at (s : WSt) (r : Row) : outs s r = (List.range r.length).map (outAt s r) ++ [wend (stAt s r r.length)] := by
  unfold outs
  rw [outs0_at, stAt_all]
theorem div_step (i n : Nat) (h : 0 < n) : (i % n + 1 = n ∧ (i + 1) % n = 0 ∧ (i + 1) / n = i / n + 1) ∨ (i % n + 1 < n ∧ (i + 1) % n = i % n + 1 ∧ (i + 1) / n = i / n) := by
  have e := Nat.div_add_mod i n
  have l := Nat.mod_lt i h
  by_cases c : i % n + 1 = n
  · have e2 : i + 1 = n * (i / n + 1) := by
      rw [Nat.mul_add, Nat.mul_one]
      omega
    refine Or.inl ⟨c, ?_, ?_⟩
    · rw [e2, Nat.mul_mod_right]
    · rw [e2, Nat.mul_div_cancel_left _ h]
  · have e2 : i + 1 = n * (i / n) + (i % n + 1) := by omega
    refine Or.inr ⟨by omega, ?_, ?_⟩
    · conv => lhs; rw [e2]
      rw [Nat.mul_add_mod, Nat.mod_eq_of_lt (by omega)]
    · conv => lhs; rw [e2]
      have e3 : (i % n + 1) / n = 0 := Nat.div_eq_of_lt (by omega)
      rw [Nat.mul_add_div h, e3, Nat.add_zero]
/-! add, escape -/
theorem add_st (key : Row) (hk : 1 ≤ key.length) (r : Row) : ∀ i : Nat, i ≤ r.length → stAt (.add key 0) r i = .add key ((i % key.length : Nat) : Int)
  | 0, _ => by
    rw [stAt_zero, Nat.zero_mod]
    rfl
  | i + 1, h => by
    rw [stAt_succ (by omega), add_st key hk r i (by omega)]
    show WSt.add key _ = _
    congr 1
    rw [← Int.natCast_one, ← Int.natCast_add, ← Int.natCast_emod]
    rcases div_step i key.length hk with ⟨a, b, _⟩ | ⟨a, b, _⟩
    · rw [a, b, Nat.mod_self]
    · rw [b, Nat.mod_eq_of_lt a]
theorem add_out (key : Row) (hk : 1 ≤ key.length) (r : Row) {i : Nat} (h : i < r.length) : outAt (.add key 0) r i = [(gI r (i : Int) + gI key ((i % key.length : Nat) : Int)) % 256] := by
  unfold outAt
  rw [add_st key hk r i (by omega)]
  rfl
theorem add_end (key : Row) (hk : 1 ≤ key.length) (r : Row) : wend (stAt (.add key 0) r r.length) = [] := by
  rw [add_st key hk r _ (Nat.le_refl _)]
  rfl
theorem esc_st (e : Int) (r : Row) : ∀ i : Nat, i ≤ r.length → stAt (.esc e) r i = .esc e
  | 0, _ => rfl
  | i + 1, h => by
    rw [stAt_succ (by omega), esc_st e r i (by omega)]
    rfl
theorem esc_out (e : Int) (r : Row) {i : Nat} (h : i < r.length) : outAt (.esc e) r i = escOut e (gI r (i : Int)) := by
  unfold outAt
  rw [esc_st e r i (by omega)]
  rfl
theorem esc_end (e : Int) (r : Row) : wend (stAt (.esc e) r r.length) = [] := by
  rw [esc_st e r _ (Nat.le_refl _)]
  rfl
/-! runs -/
theorem runs_st (r : Row) : ∀ i : Nat, i ≤ r.length → ∃ many byte, stAt (.runs 0 0) r i = .runs many byte ∧ 0 ≤ many ∧ many < 255 ∧ (0 < i → byte = gI r ((i - 1 : Nat) : Int)) ∧ (i = 0 → many = 0)
  | 0, _ => ⟨0, 0, rfl, by decide, by decide, fun h => absurd h (by decide), fun _ => rfl⟩
  | i + 1, h => by
    obtain ⟨many, byte, e, h0, h1, h2, h3⟩ := runs_st r i (by omega)
    rw [stAt_succ (by omega), e]
    show ∃ m b, (takeRuns many byte (gI r (i : Int))).2 = _ ∧ _
    unfold takeRuns
    by_cases c : many > 0 ∧ gI r (i : Int) ≠ byte
    · rw [if_pos c]
      exact ⟨1, _, rfl, by decide, by decide, fun _ => rfl, fun z => absurd z (by omega)⟩
    · rw [if_neg c]
      by_cases c2 : many + 1 = 255
      · rw [if_pos c2]
        exact ⟨0, _, rfl, by decide, by decide, fun _ => rfl, fun z => absurd z (by omega)⟩
      · rw [if_neg c2]
        exact ⟨many + 1, _, rfl, by omega, by omega, fun _ => rfl, fun z => absurd z (by omega)⟩
/-! chunks, checks -/
theorem chunks_st (n : Nat) (hn : 1 ≤ n) (r : Row) : ∀ i : Nat, i ≤ r.length → stAt (.chunks (n : Int) []) r i = .chunks (n : Int) ((r.take i).drop (i / n * n))
  | 0, _ => by
    rw [stAt_zero]
    simp
  | i + 1, h => by
    rw [stAt_succ (by omega), chunks_st n hn r i (by omega)]
    show (takeChunks _ _ _).2 = _
    have e := Nat.div_add_mod i n
    rw [Nat.mul_comm] at e
    have hlen : ((r.take i).drop (i / n * n)).length = i % n := by
      rw [List.length_drop, List.length_take, Nat.min_eq_left (by omega)]
      omega
    have hlen2 : ((r.take i).drop (i / n * n) ++ [gI r (i : Int)]).length = i % n + 1 := by rw [List.length_append, hlen]; rfl
    have hs : (r.take i).drop (i / n * n) ++ [gI r (i : Int)] = (r.take (i + 1)).drop (i / n * n) := by
      rw [take_snoc (by omega), List.drop_append_of_le_length (by rw [List.length_take, Nat.min_eq_left (by omega)]; omega)]
    unfold takeChunks
    rw [hlen2]
    rcases div_step i n hn with ⟨a, _, c⟩ | ⟨a, _, c⟩
    · rw [if_pos (by omega), c]
      have e2 : (i / n + 1) * n = i + 1 := by
        rw [Nat.add_mul, Nat.one_mul]
        omega
      have e3 : (r.take (i + 1)).drop (i + 1) = [] := List.drop_eq_nil_of_le (by rw [List.length_take]; omega)
      rw [e2, e3]
    · rw [if_neg (by omega), c, hs]
theorem chunks_out (n : Nat) (hn : 1 ≤ n) (r : Row) {i : Nat} (h : i < r.length) :
    outAt (.chunks (n : Int) []) r i = if (i + 1) % n = 0 then (n : Int) :: (r.take (i + 1)).drop (i + 1 - n) else [] := by
  unfold outAt
  rw [chunks_st n hn r i (by omega)]
  show (takeChunks _ _ _).1 = _
  have e := Nat.div_add_mod i n
  rw [Nat.mul_comm] at e
  have hlen : ((r.take i).drop (i / n * n)).length = i % n := by
    rw [List.length_drop, List.length_take, Nat.min_eq_left (by omega)]
    omega
  have hlen2 : ((r.take i).drop (i / n * n) ++ [gI r (i : Int)]).length = i % n + 1 := by rw [List.length_append, hlen]; rfl
  have hs : (r.take i).drop (i / n * n) ++ [gI r (i : Int)] = (r.take (i + 1)).drop (i / n * n) := by
    rw [take_snoc (by omega), List.drop_append_of_le_length (by rw [List.length_take, Nat.min_eq_left (by omega)]; omega)]
  unfold takeChunks
  rw [hlen2, hs]
  rcases div_step i n hn with ⟨a, b, c⟩ | ⟨a, b, c⟩
  · rw [if_pos (by omega), if_pos b, a]
    have e2 : i / n * n = i + 1 - n := by omega
    rw [e2]
  · rw [if_neg (by omega), if_neg (by omega)]
theorem chunks_end (n : Nat) (hn : 1 ≤ n) (r : Row) : wend (stAt (.chunks (n : Int) []) r r.length) = ((r.length % n : Nat) : Int) :: r.drop (r.length - r.length % n) := by
  rw [chunks_st n hn r _ (Nat.le_refl _), List.take_length]
  have e := Nat.div_add_mod r.length n
  rw [Nat.mul_comm] at e
  have e2 : r.length / n * n = r.length - r.length % n := by omega
  have e3 : r.length - (r.length - r.length % n) = r.length % n := by omega
  show ((r.drop _).length : Int) :: _ = _
  rw [List.length_drop, e2, e3]
theorem checkAll_snoc : ∀ (c : Int) (r : Row) (b : Int), checkAll c (r ++ [b]) = nextCheck (checkAll c r) b
  | _, [], _ => rfl
  | c, x :: r, b => checkAll_snoc (nextCheck c x) r b
theorem checks_st (n : Nat) (hn : 1 ≤ n) (r : Row) : ∀ i : Nat, i ≤ r.length → stAt (.checks (n : Int) 0 0) r i = .checks (n : Int) ((i % n : Nat) : Int) (checkAll 0 (r.take i))
  | 0, _ => by
    rw [stAt_zero, Nat.zero_mod]
    rfl
  | i + 1, h => by
    rw [stAt_succ (by omega), checks_st n hn r i (by omega), take_snoc (by omega), checkAll_snoc]
    show (takeChecks _ _ _ _).2 = _
    unfold takeChecks
    rcases div_step i n hn with ⟨a, b, _⟩ | ⟨a, b, _⟩
    · rw [if_neg (by omega), b]
      rfl
    · rw [if_pos (by omega), b]
      rfl
theorem checks_out (n : Nat) (hn : 1 ≤ n) (r : Row) {i : Nat} (h : i < r.length) :
    outAt (.checks (n : Int) 0 0) r i = gI r (i : Int) :: (if (i + 1) % n = 0 then checkBytes (checkAll 0 (r.take (i + 1))) else []) := by
  unfold outAt
  rw [checks_st n hn r i (by omega), take_snoc (by omega), checkAll_snoc]
  show (takeChecks _ _ _ _).1 = _
  unfold takeChecks
  rcases div_step i n hn with ⟨a, b, _⟩ | ⟨a, b, _⟩
  · rw [if_neg (by omega), if_pos b]
  · rw [if_pos (by omega), if_neg (by omega)]
theorem checks_end (n : Nat) (hn : 1 ≤ n) (r : Row) : wend (stAt (.checks (n : Int) 0 0) r r.length) = checkBytes (checkAll 0 r) := by
  rw [checks_st n hn r _ (Nat.le_refl _), List.take_length]
  rfl
end Flow

/-! plain: move to front, by sets -/
namespace Flow
open PyProof.Rows
/-- how many are different -/
def nd (xs : Row) : Nat := (firstMet (fun i => xs.getD i 0) xs.length).length
theorem nodup_len : ∀ {D E : Row}, D.Nodup → (∀ x, x ∈ D → x ∈ E) → D.length ≤ E.length
  | [], _, _, _ => Nat.zero_le _
  | x :: D, E, h, hs => by
    have hx : x ∈ E := hs x (List.mem_cons_self ..)
    have ⟨h1, h2⟩ := List.nodup_cons.mp h
    have ih := nodup_len (D := D) (E := E.erase x) h2 fun y hy => (List.mem_erase_of_ne (fun z : y = x => h1 (by rw [← z]; exact hy))).mpr (hs y (List.mem_cons_of_mem _ hy))
    rw [List.length_erase_of_mem hx] at ih
    have hp : 0 < E.length := List.length_pos_of_mem hx
    show D.length + 1 ≤ E.length
    omega
theorem met_nodup (val : Nat → Int) : ∀ i, (firstMet val i).Nodup
  | 0 => by
    rw [firstMet_zero]
    exact List.nodup_nil
  | i + 1 => by
    rw [firstMet_succ]
    unfold step_dedup
    split
    · exact met_nodup val i
    · rename_i h
      refine List.nodup_append.mpr ⟨met_nodup val i, by simp, fun a ha b hb => ?_⟩
      rw [List.mem_singleton.mp hb]
      intro e
      subst e
      exact h (List.any_eq_true.mpr ⟨_, ha, by simp⟩)
theorem met_mem (xs : Row) (x : Int) : x ∈ firstMet (fun i => xs.getD i 0) xs.length ↔ x ∈ xs := by
  have h := firstMet_any (fun i => xs.getD i 0) xs.length x
  have e : (List.range xs.length).map (fun i => xs.getD i 0) = xs := by
    refine List.ext_getElem? fun i => ?_
    rw [List.getElem?_map]
    by_cases hi : i < xs.length
    · rw [List.getElem?_range hi, List.getElem?_eq_getElem hi]
      simp [hi]
    · rw [List.getElem?_eq_none (by rw [List.length_range]; omega), List.getElem?_eq_none (by omega)]
      rfl
  rw [e] at h
  have t : ∀ l : Row, l.any (· == x) = true ↔ x ∈ l := fun l => by simp [List.any_eq_true]
  rw [← t, ← t, h]
theorem nd_eq {D xs : Row} (h : D.Nodup) (hm : ∀ x, x ∈ D ↔ x ∈ xs) : D.length = nd xs := by
  unfold nd
  refine Nat.le_antisymm (nodup_len h fun x hx => (met_mem xs x).mpr ((hm x).mp hx)) (nodup_len (met_nodup _ _) fun x hx => (hm x).mpr ((met_mem xs x).mp hx))
theorem move_eq {L : Row} {b : Int} (h : L.Nodup) (hb : b ∈ L) : moveFront L (L.idxOf b) = b :: L.filter (fun x => x != b) := by
  unfold moveFront
  rw [← List.erase_eq_eraseIdx_of_idxOf rfl, h.erase_eq_filter]
  have hl : L.idxOf b < L.length := List.idxOf_lt_length_of_mem hb
  rw [List.getD_eq_getElem?_getD, List.getElem?_eq_getElem hl, List.getElem_idxOf]
  rfl
theorem front_from {S : WSt} {r L : Row} {j : Nat} (hL : L.Nodup) (hj : stAt S r j = .front L) (hm : ∀ b, b ∈ r → b ∈ L) : ∀ d : Nat, j + d ≤ r.length →
    ∃ D : Row, stAt S r (j + d) = .front (D ++ L.filter (fun x => decide (x ∉ (r.take (j + d)).drop j))) ∧ D.Nodup ∧ (∀ x, x ∈ D ↔ x ∈ (r.take (j + d)).drop j)
  | 0, h => by
    have e : (r.take (j + 0)).drop j = [] := List.drop_eq_nil_of_le (by rw [List.length_take]; omega)
    rw [e]
    refine ⟨[], ?_, List.nodup_nil, fun x => Iff.rfl⟩
    rw [Nat.add_zero, hj, List.filter_eq_self.mpr (by simp)]
    rfl
  | d + 1, h => by
    obtain ⟨D, e, hD, hmD⟩ := front_from hL hj hm d (by omega)
    have hb : gI r ((j + d : Nat) : Int) ∈ r := gI_mem (by omega) (by omega)
    have hs : (r.take (j + (d + 1))).drop j = (r.take (j + d)).drop j ++ [gI r ((j + d : Nat) : Int)] := by
      rw [← Nat.add_assoc, take_snoc (by omega), List.drop_append_of_le_length (by rw [List.length_take, Nat.min_eq_left (by omega)]; omega)]
    rw [hs, ← Nat.add_assoc, stAt_succ (by omega), e]
    generalize gI r ((j + d : Nat) : Int) = b at *
    generalize (r.take (j + d)).drop j = s at *
    have hR : (D ++ L.filter (fun x => decide (x ∉ s))).Nodup := by
      refine List.nodup_append.mpr ⟨hD, hL.filter _, fun x hx y hy z => ?_⟩
      subst z
      have h2 := (List.mem_filter.mp hy).2
      exact of_decide_eq_true h2 ((hmD x).mp hx)
    have hbR : b ∈ D ++ L.filter (fun x => decide (x ∉ s)) := by
      refine List.mem_append.mpr ?_
      by_cases c : b ∈ s
      · exact Or.inl ((hmD b).mpr c)
      · exact Or.inr (List.mem_filter.mpr ⟨hm b hb, decide_eq_true c⟩)
    refine ⟨b :: D.filter (fun x => x != b), ?_, ?_, fun x => ?_⟩
    · show WSt.front (moveFront _ _) = _
      rw [move_eq hR hbR, List.filter_append, List.filter_filter]
      show WSt.front (b :: (_ ++ _)) = WSt.front (b :: (_ ++ _))
      congr 3
      refine List.filter_congr fun x _ => ?_
      by_cases h1 : x = b <;> by_cases h2 : x ∈ s <;> simp [h1, h2]
    · refine List.nodup_cons.mpr ⟨fun z => ?_, hD.filter _⟩
      have := (List.mem_filter.mp z).2
      simp at this
    · rw [List.mem_cons, List.mem_filter, List.mem_append, List.mem_singleton, hmD x]
      by_cases h1 : x = b <;> simp [h1]
theorem r256_nodup : range256.Nodup := by
  have h : (List.range 256).Nodup := List.nodup_range
  unfold range256
  refine List.Pairwise.map _ (fun a b z e => z ?_) h
  exact Int.ofNat.inj e
theorem mem_r256 {r : Row} (h : Bys r) : ∀ b, b ∈ r → b ∈ range256 := fun b hb => range256_mem (h b hb)
/-- a byte that was there before: how many different ones since -/
theorem front_old {r : Row} (hr : Bys r) {i last : Nat} (h : i < r.length) (hl : last < i) (he : gI r (last : Int) = gI r (i : Int)) (hn : gI r (i : Int) ∉ (r.take i).drop (last + 1)) :
    outAt (.front range256) r i = [(nd ((r.take i).drop (last + 1)) : Int)] := by
  obtain ⟨D0, e0, hD0, hm0⟩ := front_from (S := .front range256) (r := r) (j := 0) r256_nodup rfl (mem_r256 hr) last (by omega)
  rw [Nat.zero_add] at e0 hm0
  have hb : gI r (i : Int) ∈ r := gI_mem (by omega) (by omega)
  have hR : (D0 ++ range256.filter (fun x => decide (x ∉ (r.take last).drop 0))).Nodup := by
    refine List.nodup_append.mpr ⟨hD0, r256_nodup.filter _, fun x hx y hy z => ?_⟩
    subst z
    have h2 := (List.mem_filter.mp hy).2
    exact of_decide_eq_true h2 ((hm0 x).mp hx)
  have hall : ∀ b, b ∈ r → b ∈ D0 ++ range256.filter (fun x => decide (x ∉ (r.take last).drop 0)) := fun b hb => by
    refine List.mem_append.mpr ?_
    by_cases c : b ∈ (r.take last).drop 0
    · exact Or.inl ((hm0 b).mpr c)
    · exact Or.inr (List.mem_filter.mpr ⟨range256_mem (hr b hb), decide_eq_true c⟩)
  generalize D0 ++ range256.filter (fun x => decide (x ∉ (r.take last).drop 0)) = R at *
  have e1 : stAt (.front range256) r (last + 1) = .front (gI r (i : Int) :: R.filter (fun x => x != gI r (i : Int))) := by
    rw [stAt_succ (by omega), e0, he]
    show WSt.front (moveFront _ _) = _
    rw [move_eq hR (hall _ hb)]
  generalize hbb : gI r (i : Int) = b at *
  have hnd : (b :: R.filter (fun x => x != b)).Nodup := by
    refine List.nodup_cons.mpr ⟨fun z => ?_, hR.filter _⟩
    have := (List.mem_filter.mp z).2
    simp at this
  obtain ⟨D, e2, hD, hmD⟩ := front_from (S := .front range256) (r := r) (j := last + 1) hnd e1 (fun x hx => by
    by_cases c : x = b
    · rw [c]; exact List.mem_cons_self ..
    · exact List.mem_cons_of_mem _ (List.mem_filter.mpr ⟨hall x hx, by simp [c]⟩)) (i - (last + 1)) (by omega)
  have ei : last + 1 + (i - (last + 1)) = i := by omega
  rw [ei] at e2 hmD
  unfold outAt
  rw [e2, hbb]
  show [((D ++ _).idxOf b : Int)] = _
  have hbD : b ∉ D := fun z => hn ((hmD b).mp z)
  rw [List.idxOf_append, if_neg hbD, List.filter_cons, if_pos (decide_eq_true hn), List.idxOf_cons_self, Nat.zero_add, nd_eq hD hmD]
theorem filter_two : ∀ (A : Row) (p : Int → Bool), (A.filter p).length + (A.filter fun x => !p x).length = A.length
  | [], _ => rfl
  | a :: A, p => by
    have ih := filter_two A p
    rw [List.filter_cons, List.filter_cons]
    cases p a <;> simp <;> omega
theorem idx_filter {A B : Row} {b : Int} {p : Int → Bool} (hA : b ∉ A) (hp : p b = true) : ((A ++ b :: B).filter p).idxOf b = (A.filter p).length := by
  rw [List.filter_append, List.filter_cons, if_pos hp, List.idxOf_append, if_neg (fun z => hA (List.mem_filter.mp z).1), List.idxOf_cons_self, Nat.zero_add]
theorem r256_split {b : Int} (h : By b) : ∃ A B : Row, range256 = A ++ b :: B ∧ A.Nodup ∧ (A.length : Int) = b ∧ ∀ x, x ∈ A ↔ (0 ≤ x ∧ x < b) := by
  obtain ⟨n, rfl⟩ : ∃ n : Nat, b = (n : Int) := ⟨b.toNat, by have := h.1; omega⟩
  have hn : n < 256 := by have := h.2; omega
  obtain ⟨m, hm⟩ : ∃ m, 256 = n + (m + 1) := ⟨255 - n, by omega⟩
  refine ⟨(List.range n).map Int.ofNat, ((List.range m).map (fun k => n + (k + 1))).map Int.ofNat, ?_, ?_, ?_, fun x => ?_⟩
  · unfold range256
    rw [hm, List.range_add, List.map_append, List.range_succ_eq_map]
    rw [List.map_cons, List.map_map, List.map_cons]
    refine congrArg (fun z => List.map Int.ofNat (List.range n) ++ (n : Int) :: z) ?_
    simp only [List.map_map]
    rfl
  · have h : (List.range n).Nodup := List.nodup_range
    exact List.Pairwise.map _ (fun a b z e => z (Int.ofNat.inj e)) h
  · rw [List.length_map, List.length_range]
  · rw [List.mem_map]
    constructor
    · rintro ⟨k, hk, rfl⟩
      have := List.mem_range.mp hk
      exact ⟨Int.natCast_nonneg k, Int.ofNat_lt.mpr this⟩
    · rintro ⟨h1, h2⟩
      exact ⟨x.toNat, List.mem_range.mpr (by omega), by show ((x.toNat : Nat) : Int) = x; omega⟩
/-- a byte that was not there before -/
theorem front_new {r : Row} (hr : Bys r) {i : Nat} (h : i < r.length) (hn : gI r (i : Int) ∉ r.take i) :
    outAt (.front range256) r i = [(nd (r.take i) : Int) + (gI r (i : Int) - (nd ((r.take i).filter fun x => decide (x < gI r (i : Int))) : Int))] := by
  obtain ⟨D, e, hD, hm⟩ := front_from (S := .front range256) (r := r) (j := 0) r256_nodup rfl (mem_r256 hr) i (by omega)
  rw [Nat.zero_add] at e hm
  rw [List.drop_zero] at e hm
  have hb : By (gI r (i : Int)) := hr _ (gI_mem (by omega) (by omega))
  unfold outAt
  rw [e]
  generalize gI r (i : Int) = b at *
  obtain ⟨A, B, e2, hA, hAl, hAm⟩ := r256_split hb
  have hbA : b ∉ A := fun z => by
    have := ((hAm b).mp z).2
    omega
  show [((D ++ _).idxOf b : Int)] = _
  have hbD : b ∉ D := fun z => hn ((hm b).mp z)
  have hf := filter_two A fun x => decide (x ∉ r.take i)
  have hk : (A.filter fun x => !decide (x ∉ r.take i)).length = nd ((r.take i).filter fun x => decide (x < b)) := by
    refine nd_eq (hA.filter _) fun x => ?_
    rw [List.mem_filter, List.mem_filter, hAm]
    constructor
    · rintro ⟨h1, h2⟩
      refine ⟨?_, decide_eq_true h1.2⟩
      by_cases c : x ∈ r.take i
      · exact c
      · simp [c] at h2
    · rintro ⟨h1, h2⟩
      exact ⟨⟨(hr x (List.mem_of_mem_take h1)).1, of_decide_eq_true h2⟩, by simp [h1]⟩
  rw [List.idxOf_append, if_neg hbD, e2, idx_filter hbA (decide_eq_true hn), nd_eq hD hm]
  congr 1
  omega
theorem front_end {r : Row} (hr : Bys r) : wend (stAt (.front range256) r r.length) = [] := by
  obtain ⟨D, e, _⟩ := front_from (S := .front range256) (r := r) (j := 0) r256_nodup rfl (mem_r256 hr) r.length (by omega)
  rw [Nat.zero_add] at e
  rw [e]
  rfl
end Flow

/-! plain: bits and groups; signs -/
namespace Flow
def bits1 (n : Nat) (x : Int) : Row := (List.range n).map fun k : Nat => x / gI powersT ((n : Int) - 1 - (k : Int)) % 2
def bitsOf (n : Nat) (r : Row) : Row := (r.map (bits1 n)).flatten
def grpOf (n : Nat) (g : Row) : Int := ((List.range n).map fun j : Nat => gI g (j : Int) * gI powersT ((n : Int) - 1 - (j : Int))).sum
def groupsOf (n : Nat) (bs : Row) : Row := (List.range (bs.length / n)).map fun k : Nat => grpOf n ((bs.drop (n * k)).take n)
theorem bits1_len (n : Nat) (x : Int) : (bits1 n x).length = n := by
  unfold bits1
  rw [List.length_map, List.length_range]
theorem bitsOf_len (n : Nat) : ∀ r : Row, (bitsOf n r).length = n * r.length
  | [] => rfl
  | x :: r => by
    have ih := bitsOf_len n r
    unfold bitsOf at *
    rw [List.map_cons, List.flatten_cons, List.length_append, bits1_len, ih, List.length_cons, Nat.mul_add]
    omega
theorem bitsOf_cons (n : Nat) (x : Int) (r : Row) : bitsOf n (x :: r) = bits1 n x ++ bitsOf n r := rfl
theorem bitsOf_app (n : Nat) (x y : Row) : bitsOf n (x ++ y) = bitsOf n x ++ bitsOf n y := by
  unfold bitsOf
  rw [List.map_append, List.flatten_append]
theorem groups_cons {n : Nat} (hn : 1 ≤ n) (A X : Row) (hA : A.length = n) : groupsOf n (A ++ X) = grpOf n A :: groupsOf n X := by
  unfold groupsOf
  have e : (A ++ X).length / n = X.length / n + 1 := by
    rw [List.length_append, hA, Nat.add_comm, Nat.add_div_right _ hn]
  rw [e, List.range_succ_eq_map, List.map_cons, List.map_map]
  congr 1
  · rw [Nat.mul_zero, List.drop_zero, List.take_append_of_le_length (by omega), List.take_of_length_le (by omega)]
  · refine List.map_congr_left fun k _ => ?_
    show grpOf n (((A ++ X).drop (n * (k + 1))).take n) = _
    have e2 : n * (k + 1) = A.length + n * k := by rw [hA, Nat.mul_add]; omega
    rw [e2, List.drop_append]
    have e3 : A.drop (A.length + n * k) = [] := List.drop_eq_nil_of_le (by omega)
    rw [e3, List.nil_append]
    congr 3
    omega
theorem groups_nil (n : Nat) : groupsOf n [] = [] := by
  unfold groupsOf
  simp
theorem bits8 (x : Int) : bits1 8 x = [x / 128 % 2, x / 64 % 2, x / 32 % 2, x / 16 % 2, x / 8 % 2, x / 4 % 2, x / 2 % 2, x / 1 % 2] := rfl
theorem grp6 (a b c d e f : Int) : grpOf 6 [a, b, c, d, e, f] = a * 32 + b * 16 + c * 8 + d * 4 + e * 2 + f := by
  show a * 32 + (b * 16 + (c * 8 + (d * 4 + (e * 2 + (f * 1 + 0))))) = _
  omega
/-- the signs of all bytes -/
def padOf (r : Row) : Nat := (6 - 8 * r.length % 6) % 6
def lawSigns (r : Row) : Row := (groupsOf 6 (bitsOf 8 r ++ List.replicate (padOf r) 0)).map signOf
def sCut (S : Row) (k : Nat) : Row := (S.drop (8 * k / 6)).take (8 * (k + 1) / 6 - 8 * k / 6)
theorem six (a b c d e f : Int) (X : Row) : groupsOf 6 (a :: b :: c :: d :: e :: f :: X) = grpOf 6 [a, b, c, d, e, f] :: groupsOf 6 X := groups_cons (by decide) [a, b, c, d, e, f] X rfl
theorem signs3 {a b c : Int} (ha : By a) (hb : By b) (hc : By c) (r : Row) : lawSigns (a :: b :: c :: r) = signOf (a / 4) :: signOf (a % 4 * 16 + b / 16) :: signOf (b % 16 * 4 + c / 64) :: signOf (c % 64) :: lawSigns r := by
  obtain ⟨a0, a1⟩ := ha
  obtain ⟨b0, b1⟩ := hb
  obtain ⟨c0, c1⟩ := hc
  unfold lawSigns
  have hp : padOf (a :: b :: c :: r) = padOf r := by
    unfold padOf
    simp only [List.length_cons]
    omega
  rw [hp, bitsOf_cons, bitsOf_cons, bitsOf_cons, bits8, bits8, bits8]
  simp only [List.cons_append, List.nil_append]
  rw [six, six, six, six, grp6, grp6, grp6, grp6]
  simp only [List.map_cons]
  congr 1
  · congr 1
    omega
  congr 1
  · congr 1
    omega
  congr 1
  · congr 1
    omega
  congr 1
  congr 1
  omega
theorem signs1 {a : Int} (ha : By a) : lawSigns [a] = [signOf (a / 4), signOf (a % 4 * 16)] := by
  obtain ⟨a0, a1⟩ := ha
  unfold lawSigns
  have hp : padOf [a] = 4 := by
    unfold padOf
    simp only [List.length_cons, List.length_nil]
  rw [hp, bitsOf_cons, bits8]
  show (groupsOf 6 (a / 128 % 2 :: a / 64 % 2 :: a / 32 % 2 :: a / 16 % 2 :: a / 8 % 2 :: a / 4 % 2 :: a / 2 % 2 :: a / 1 % 2 :: 0 :: 0 :: 0 :: 0 :: [])).map signOf = _
  rw [six, six, grp6, grp6, groups_nil]
  simp only [List.map_cons, List.map_nil]
  congr 1
  · congr 1
    omega
  congr 1
  congr 1
  omega
theorem signs2' {a b : Int} (ha : By a) (hb : By b) : lawSigns [a, b] = [signOf (a / 4), signOf (a % 4 * 16 + b / 16), signOf (b % 16 * 4)] := by
  obtain ⟨a0, a1⟩ := ha
  obtain ⟨b0, b1⟩ := hb
  unfold lawSigns
  have hp : padOf [a, b] = 2 := by
    unfold padOf
    simp only [List.length_cons, List.length_nil]
  rw [hp, bitsOf_cons, bitsOf_cons, bits8, bits8]
  show (groupsOf 6 (a / 128 % 2 :: a / 64 % 2 :: a / 32 % 2 :: a / 16 % 2 :: a / 8 % 2 :: a / 4 % 2 :: a / 2 % 2 :: a / 1 % 2 :: b / 128 % 2 :: b / 64 % 2 :: b / 32 % 2 :: b / 16 % 2 :: b / 8 % 2 :: b / 4 % 2 :: b / 2 % 2 :: b / 1 % 2 :: 0 :: 0 :: [])).map signOf = _
  rw [six, six, six, grp6, grp6, grp6, groups_nil]
  simp only [List.map_cons, List.map_nil]
  congr 1
  · congr 1
    omega
  congr 1
  · congr 1
    omega
  congr 1
  congr 1
  omega
theorem ts0 {a : Int} (ha : By a) : wtake (.signs 0 0) a = ([signOf (a / 4)], .signs 2 (a % 4)) := by
  show takeSigns 0 0 a = _
  unfold takeSigns
  rw [if_neg (by decide)]
  show ([signOf ((0 * 256 + a) / 4)], WSt.signs 2 ((0 * 256 + a) % 4)) = _
  have e : 0 * 256 + a = a := by omega
  rw [e]
theorem ts2 (v a : Int) : wtake (.signs 2 v) a = ([signOf ((v * 256 + a) / 16)], .signs 4 ((v * 256 + a) % 16)) := by
  show takeSigns 2 v a = _
  unfold takeSigns
  rw [if_neg (by decide)]
  rfl
theorem ts4 (v a : Int) : wtake (.signs 4 v) a = ([signOf ((v * 256 + a) / 64), signOf ((v * 256 + a) % 64)], .signs 0 0) := by
  show takeSigns 4 v a = _
  unfold takeSigns
  rw [if_pos (by decide)]
  show ([signOf ((v * 256 + a) / 64), signOf ((v * 256 + a) % 64 / 1)], WSt.signs 0 ((v * 256 + a) % 64 % 1)) = _
  rw [Int.ediv_one, Int.emod_one]
theorem cut1 (x y : Int) {a : Int} : (List.range [a].length).map (sCut [x, y]) ++ [[x, y].drop (8 * [a].length / 6)] = [[x], [y]] := by
  show [([x, y].drop (8 * 0 / 6)).take (8 * (0 + 1) / 6 - 8 * 0 / 6)] ++ [[x, y].drop (8 * 1 / 6)] = _
  rfl
theorem cut2 (x y z : Int) {a b : Int} : (List.range [a, b].length).map (sCut [x, y, z]) ++ [[x, y, z].drop (8 * [a, b].length / 6)] = [[x], [y], [z]] := by
  show [([x, y, z].drop (8 * 0 / 6)).take (8 * (0 + 1) / 6 - 8 * 0 / 6), ([x, y, z].drop (8 * 1 / 6)).take (8 * (1 + 1) / 6 - 8 * 1 / 6)] ++ [[x, y, z].drop (8 * 2 / 6)] = _
  rfl
theorem signs_rows : ∀ r : Row, Bys r → outs (.signs 0 0) r = (List.range r.length).map (sCut (lawSigns r)) ++ [(lawSigns r).drop (8 * r.length / 6)]
  | [], _ => rfl
  | [a], h => by
    rw [signs1 h.head]
    show (wtake (.signs 0 0) a).1 :: [wend (wtake (.signs 0 0) a).2] = _
    rw [ts0 h.head]
    exact (cut1 _ _).symm
  | [a, b], h => by
    rw [signs2' h.head h.tail.head]
    show (wtake (.signs 0 0) a).1 :: (wtake (wtake (.signs 0 0) a).2 b).1 :: [wend (wtake (wtake (.signs 0 0) a).2 b).2] = _
    rw [ts0 h.head]
    dsimp only
    rw [ts2]
    have hb := h.tail.head
    obtain ⟨b0, b1⟩ := hb
    have e1 : (a % 4 * 256 + b) / 16 = a % 4 * 16 + b / 16 := by omega
    have e2 : (a % 4 * 256 + b) % 16 = b % 16 := by omega
    rw [e1, e2]
    exact (cut2 _ _ _).symm
  | a :: b :: c :: r, h => by
    have ih := signs_rows r h.tail.tail.tail
    rw [signs3 h.head h.tail.head h.tail.tail.head]
    show (wtake (.signs 0 0) a).1 :: (wtake (wtake (.signs 0 0) a).2 b).1 :: (wtake (wtake (wtake (.signs 0 0) a).2 b).2 c).1 :: outs (wtake (wtake (wtake (.signs 0 0) a).2 b).2 c).2 r = _
    rw [ts0 h.head]
    dsimp only
    rw [ts2]
    dsimp only
    rw [ts4]
    dsimp only
    obtain ⟨b0, b1⟩ := h.tail.head
    obtain ⟨c0, c1⟩ := h.tail.tail.head
    have e1 : (a % 4 * 256 + b) / 16 = a % 4 * 16 + b / 16 := by omega
    have e2 : (a % 4 * 256 + b) % 16 = b % 16 := by omega
    rw [e1, e2]
    have e3 : (b % 16 * 256 + c) / 64 = b % 16 * 4 + c / 64 := by omega
    have e4 : (b % 16 * 256 + c) % 64 = c % 64 := by omega
    rw [e3, e4, ih]
    generalize signOf (a / 4) = s0
    generalize signOf (a % 4 * 16 + b / 16) = s1
    generalize signOf (b % 16 * 4 + c / 64) = s2
    generalize signOf (c % 64) = s3
    generalize lawSigns r = S
    have hl : (a :: b :: c :: r).length = r.length + 3 := rfl
    rw [hl, List.range_succ_eq_map, List.map_cons, List.map_map, List.range_succ_eq_map, List.map_cons, List.map_map, List.range_succ_eq_map, List.map_cons, List.map_map]
    have e5 : 8 * (r.length + 3) / 6 = 8 * r.length / 6 + 4 := by omega
    rw [e5]
    show _ = [s0] :: [s1] :: [s2, s3] :: (_ ++ [S.drop _])
    congr 4
    refine List.map_congr_left fun k _ => ?_
    show (S.drop (8 * k / 6)).take (8 * (k + 1) / 6 - 8 * k / 6) = ((s0 :: s1 :: s2 :: s3 :: S).drop (8 * (k + 3) / 6)).take (8 * (k + 3 + 1) / 6 - 8 * (k + 3) / 6)
    have e6 : 8 * (k + 3) / 6 = 8 * k / 6 + 4 := by omega
    have e7 : 8 * (k + 3 + 1) / 6 - (8 * k / 6 + 4) = 8 * (k + 1) / 6 - 8 * k / 6 := by omega
    rw [e6, e7]
    rfl
theorem lawSigns_len (r : Row) : (lawSigns r).length = (8 * r.length + padOf r) / 6 := by
  unfold lawSigns groupsOf
  rw [List.length_map, List.length_map, List.length_range, List.length_append, bitsOf_len, List.length_replicate]
end Flow

/-! steps that the laws' own writing and reading want: how many are different, dicts, rows of rows -/
namespace Flow
open PySem PySem.Spec PyProof.Rows L2
theorem units2 {k : Nat} {A : Around} (r : Room k A) : A.units + 1 < cLine := by
  have := r.units
  omega
/-! len(set(row)) -/
def rLenSet (K : PySem.W.Frag) : V → Hp → VK → Prop := fun x H Q => ∃ (l : Addr) (ns : Row), x = .ref l ∧ SqL K H l (iV ns) ∧ ns.length ≤ 4000 ∧ Q (.int (nd ns : Nat)) H
def tLenSetG (K : PySem.W.Frag) (ta : TE) : TE := fun σ H Q => ta σ H fun x H1 => rLenSet K x H1 Q
theorem pe_lenSetG {X : Cx} {a : Expr} {ta : TE} {p p2 q pos : Pos} (hc : X.calm = true) (hg : Gl X "len") (hm : X.mg "len" = none) (hg2 : Gl X "set") (hm2 : X.mg "set" = none) (ha : PE X a ta)
    (na : starEach [a] X.env = (false, eval a X.env) :: starEach [] X.env := by rfl) : PE X (.Call (.Name "len" p) [.Call (.Name "set" p2) [a] [] q] [] pos) (tLenSetG X.K ta) := by
  refine ⟨fun pins s σ H Q I h => ?_⟩
  refine Call_ (ld_blt I hg hm PySem.boot_len ?_)
  refine PyProof.Rows.callWith_builtin1 (PyProof.Rows.args_cons ?_ rfl) rfl rfl
  refine Call_ (ld_blt I hg2 hm2 PyProof.Rows.boot_set ?_)
  refine PyProof.Rows.callWith_type1 (PyProof.Rows.args_cons (thn (ha.run pins s σ H _ I h) fun v s1 ⟨x, H1, I1, r1, q1⟩ => PyProof.Rows.args_nil ?_) na) na rfl
  obtain ⟨l, ns, rfl, hq, h1, q1⟩ := q1
  cases r1
  obtain ⟨its, r, pl, hz⟩ := I1.list hq
  have hl : its.toArray.size = ns.length := by rw [List.size_toArray, ← r.length, iV_length]
  refine call_set_list (I1.ok.hd hc) pl.isList (ns := ns) (by simpa using r.ints) (by unfold scanBound; omega) fun h' tk hS hk => ?_
  rw [hl] at hS
  refine PyProof.Rows.args_nil ?_
  obtain ⟨o, es, ep, t, ho, hex, hd, _, _, _, hf, hn⟩ := hS
  have I2 : Inv X pins σ H1 { s1 with heap := h', toks := tk } := I1.kept fun b o e => hk b o (Heap.lt_size e) e
  have hle := firstMet_length_le (fun i => ns.getD i 0) ns.length
  refine call_len_set ho hex hd hf (by rw [hn] <;> omega) ⟨.int (nd ns : Nat), H1, I2.tok _, ⟨_, by rw [hn] <;> rfl⟩, q1⟩
section
variable {K : PySem.W.Frag} {σ : L2.St} {H : Hp} {ta td ty tx te tl : TE} {Q : VK} {a p : Addr} {i n : Int} {j : Nat} {xs : List V} {row : Row}
theorem x_lenSet (q : ta σ H fun x H1 => rLenSet K x H1 Q) : tLenSetG K ta σ H Q := q
theorem x_rLenSet (h : SqL K H a (iV row)) (hz : row.length ≤ 4000) (q : Q (.int (nd row : Nat)) H) : rLenSet K (.ref a) H Q := ⟨a, row, rfl, h, hz, q⟩
theorem x_max (h : SqL K H a (iV row)) (h0 : 0 < row.length) (q : ∀ m, m ∈ row → (∀ y, y ∈ row → y ≤ m) → Q (.int m) H) : rMax K [.ref a] H Q := ⟨a, row, rfl, h, h0, q⟩
/-! dicts of two -/
def rDisp (trs : List (TE × TE)) : L2.St → Hp → VK → Prop := fun σ H Q => ∀ p, H p = none → tPairs trs σ (upd H p (.dK [])) fun ps H2 => H2 p = some (.dK []) ∧ ∃ kvs : List (Key × V), ps = kvs.map (fun kv => (kV kv.1, kv.2)) ∧ kvs.length ≤ 15 ∧ Q (.ref p) (upd H2 p (.dK (mergeK [] kvs)))
theorem x_disp {trs : List (TE × TE)} (q : rDisp trs σ H Q) : tDisp trs σ H Q := q
theorem x_pnil {R : List (V × V) → Hp → Prop} (q : R [] H) : tPairs [] σ H R := q
theorem x_pcons {tk tv : TE} {r : List (TE × TE)} {R : List (V × V) → Hp → Prop} (q : tk σ H fun x H1 => tv σ H1 fun y H2 => tPairs r σ H2 fun ps H3 => R ((x, y) :: ps) H3) : tPairs ((tk, tv) :: r) σ H R := q
def rDGet2 (ty tx : TE) (σ : L2.St) : V → Hp → VK → Prop := fun x H1 Q => ∃ a, x = .ref a ∧ IsD H1 a ∧ ty σ H1 fun y H2 => tx σ H2 fun z H3 => ∃ o, DGet H3 a y o ∧ Q (o.getD z) H3
theorem x_dget2 (q : td σ H fun x H1 => rDGet2 ty tx σ x H1 Q) : tDGet2 td ty tx σ H Q := q
theorem x_rDGet2 {kvs : List (Key × V)} (h : H a = some (.dK kvs)) (q : ty σ H fun y H2 => tx σ H2 fun z H3 => ∃ o, DGet H3 a y o ∧ Q (o.getD z) H3) : rDGet2 ty tx σ (.ref a) H Q := ⟨a, rfl, .inl ⟨kvs, .inl h⟩, q⟩
theorem two_val (m0 m1 k : Int) (x y : V) : valV (mergeK [] [((Sum.inl m0 : Key), x), ((Sum.inl m1 : Key), y)]) (Sum.inl k : Key) = if k = m1 then some y else if k = m0 then some x else none := by
  show valV (putK (putK [] (Sum.inl m0 : Key) x) (Sum.inl m1 : Key) y) (Sum.inl k : Key) = _
  rw [valV_put, valV_put, valV_nil]
  have e : ∀ a b : Int, ((Sum.inl a : Key) = Sum.inl b) = (a = b) := fun a b => propext ⟨fun z => Sum.inl.inj z, fun z => congrArg _ z⟩
  simp only [e]
end
/-! rows of rows -/
structure RowsIn (H : Hp) (ts : List Addr) (rows : List Row) : Prop where
  len : ts.length = rows.length
  at_ : ∀ (i : Nat) (t : Addr) (r : Row), ts[i]? = some t → rows[i]? = some r → H t = some (.lst (iV r))
theorem RowsIn.nil {H : Hp} : RowsIn H [] [] := ⟨rfl, fun i t r h => by simp at h⟩
theorem RowsIn.keep {H H' : Hp} {ts : List Addr} {rows : List Row} (m : RowsIn H ts rows) (e : ∀ t o, t ∈ ts → H t = some o → H' t = some o) : RowsIn H' ts rows :=
  ⟨m.len, fun i t p h1 h2 => e t _ (List.mem_of_getElem? h1) (m.at_ i t p h1 h2)⟩
theorem RowsIn.ext {H H' : Hp} {ts : List Addr} {rows : List Row} (m : RowsIn H ts rows) (e : Ext H H') : RowsIn H' ts rows := m.keep fun t o _ h => e t o h (by simp)
theorem RowsIn.put {H : Hp} {ts : List Addr} {rows : List Row} {f : Addr} {o : HO} (m : RowsIn H ts rows) (hf : ∀ t, t ∈ ts → t ≠ f) : RowsIn (upd H f o) ts rows := m.keep fun t o ht h => upd_get (hf t ht) h
theorem RowsIn.snoc {H : Hp} {ts : List Addr} {rows : List Row} {t : Addr} {r : Row} (m : RowsIn H ts rows) (h : H t = some (.lst (iV r))) : RowsIn H (ts ++ [t]) (rows ++ [r]) := by
  refine ⟨by rw [List.length_append, List.length_append, m.len]; rfl, fun i u l h1 h2 => ?_⟩
  by_cases hi : i < ts.length
  · rw [List.getElem?_append_left hi] at h1
    rw [List.getElem?_append_left (by rw [← m.len]; exact hi)] at h2
    exact m.at_ i u l h1 h2
  · rw [List.getElem?_append_right (by omega)] at h1
    rw [List.getElem?_append_right (by rw [← m.len]; omega), ← m.len] at h2
    cases hd : i - ts.length with
    | zero =>
      rw [hd] at h1 h2
      have e1 : t = u := Option.some.inj h1
      have e2 : r = l := Option.some.inj h2
      subst e1 e2
      exact h
    | succ j =>
      rw [hd] at h1
      cases h1
theorem RowsIn.get {H : Hp} {ts : List Addr} {rows : List Row} (m : RowsIn H ts rows) {i : Nat} {r : Row} (h : rows[i]? = some r) : ∃ t, ts[i]? = some t ∧ H t = some (.lst (iV r)) := by
  have hi : i < ts.length := by
    rw [m.len]
    exact (List.getElem?_eq_some_iff.mp h).1
  exact ⟨_, List.getElem?_eq_getElem hi, m.at_ i _ _ (List.getElem?_eq_getElem hi) h⟩
theorem all_snoc {Nw : Addr → Prop} {ts : List Addr} {t : Addr} (h : ∀ u, u ∈ ts → Nw u) (ht : Nw t) : ∀ u, u ∈ ts ++ [t] → Nw u := fun u hu => by
  rcases List.mem_append.mp hu with z | z
  · exact h u z
  · rw [List.mem_singleton.mp z]
    exact ht
theorem ne_snoc {ts : List Addr} {t f : Addr} (h : ∀ u, u ∈ ts → u ≠ f) (ht : t ≠ f) : ∀ u, u ∈ ts ++ [t] → u ≠ f := fun u hu => by
  rcases List.mem_append.mp hu with z | z
  · exact h u z
  · rw [List.mem_singleton.mp z]
    exact ht
section
variable {K : PySem.W.Frag} {σ : L2.St} {H : Hp} {te : TE} {Q : VK} {a : Addr} {n : Int} {j : Nat} {xs : List V}
def RAcc (Nw : Addr → Prop) (H : Hp) (Dl : Addr) (f : Nat → Row) (i : Nat) (H' : Hp) : Prop := ∃ ts : List Addr, Ext H H' ∧ H' Dl = some (.lst (ts.map V.ref)) ∧ RowsIn H' ts ((List.range i).map f) ∧ (∀ t, t ∈ ts → t ≠ Dl) ∧ ∀ t, t ∈ ts → Nw t
theorem rows_turn {Nw : Addr → Prop} {H H' : Hp} {f : Nat → Row} {Dl : Addr} {i : Nat} {σ2 : L2.St} (hD : H Dl = none) (p : RAcc Nw H Dl f i H') (hz : i < 16777216)
    (he : (∀ t, H' t = none → t ≠ Dl) → ∀ Q' : VK, (∀ t H2, Ext H' H2 → H2 t = some (.lst (iV (f i))) → t ≠ Dl → Nw t → Q' (.ref t) H2) → te σ2 H' Q') :
    tYes σ2 H' fun b H3 => if b = true then te σ2 H3 fun y H4 => ∃ acc, H4 Dl = some (.lst acc) ∧ acc.length < sizeLine ∧ RAcc Nw H Dl f (i + 1) (upd H4 Dl (.lst (acc ++ [y]))) else RAcc Nw H Dl f (i + 1) H3 := by
  obtain ⟨ts, p1, p2, p3, p4, p5⟩ := p
  unfold tYes
  dsimp only
  rw [if_pos rfl]
  refine he (fun t ht => Ne.symm (ne_of_none p2 ht)) _ fun t H2 e2 h2 ht hw => ⟨ts.map V.ref, e2 Dl _ p2 (by simp), by rw [List.length_map, p3.len, List.length_map, List.length_range, sizeLine_eq]; omega, ts ++ [t], ?_, ?_, ?_, ne_snoc p4 ht, all_snoc p5 hw⟩
  · exact (p1.trans e2).put0 hD
  · rw [upd_same, List.map_append]
    rfl
  · rw [List.range_succ, List.map_append]
    exact ((p3.ext e2).snoc h2).put (ne_snoc p4 ht)
/-- a comprehension of rows, over a range -/
theorem x_rLcRN {ws : List Nat} {k : Nat} (Nw : Addr → Prop) (f : Nat → Row) (hn : n = (k : Int)) (hz : k ≤ 16777216) (hw : ∀ x, wipe ((wipe σ ws).set j (some x)) ws = wipe σ ws)
    (he : ∀ (i : Nat) H1 (Dl : Addr), i < k → Ext H H1 → H Dl = none → (∀ t, H1 t = none → t ≠ Dl) → ∀ Q' : VK, (∀ t H2, Ext H1 H2 → H2 t = some (.lst (iV (f i))) → t ≠ Dl → Nw t → Q' (.ref t) H2) → te ((wipe σ ws).set j (some (.int (i : Int)))) H1 Q')
    (q : ∀ p ts H1, H p = none → Ext H H1 → H1 p = some (.lst (ts.map V.ref)) → RowsIn H1 ts ((List.range k).map f) → (∀ t, t ∈ ts → t ≠ p) → (∀ t, t ∈ ts → Nw t) → Q (.ref p) H1) : rLcR (gName j) tYes te ws σ [.int n] H Q := by
  subst hn
  refine ⟨(k : Int), rfl, by omega, by omega, ?_⟩
  have ek : (k : Int).toNat = k := Int.toNat_natCast k
  rw [ek]
  refine fun Dl hD => lc_range (lo := 0) (n := k) (RAcc Nw H Dl f) ⟨[], Only'.put0 Only'.refl hD, upd_same, RowsIn.nil, (fun _ h => nomatch h), (fun _ h => nomatch h)⟩ (fun i H' hi p => ?_) (fun H' ⟨ts, p1, p2, p3, p4, p5⟩ => q Dl ts H' hD p1 p2 p3 p4 p5)
  rw [Int.zero_add]
  exact ⟨hw _, rows_turn hD p (by omega) fun hne Q' k => he i H' Dl hi p.choose_spec.1 hD hne Q' k⟩
/-- .. over a list -/
theorem x_rLcLN {ws : List Nat} (Nw : Addr → Prop) (f : Nat → Row) (h : SqL K H a xs) (hz : xs.length ≤ 16777216) (hw : ∀ x, wipe ((wipe σ ws).set j (some x)) ws = wipe σ ws)
    (he : ∀ (i : Nat) x H1 (Dl : Addr), xs[i]? = some x → Ext H H1 → H Dl = none → (∀ t, H1 t = none → t ≠ Dl) → ∀ Q' : VK, (∀ t H2, Ext H1 H2 → H2 t = some (.lst (iV (f i))) → t ≠ Dl → Nw t → Q' (.ref t) H2) → te ((wipe σ ws).set j (some x)) H1 Q')
    (q : ∀ p ts H1, H p = none → Ext H H1 → H1 p = some (.lst (ts.map V.ref)) → RowsIn H1 ts ((List.range xs.length).map f) → (∀ t, t ∈ ts → t ≠ p) → (∀ t, t ∈ ts → Nw t) → Q (.ref p) H1) : rLcL K (gName j) tYes te ws σ (.ref a) H Q := by
  refine ⟨a, rfl, ⟨xs, h⟩, fun Dl hD => lc_list (K := K) (a := a) (xs := xs) (RAcc Nw H Dl f) ⟨[], Only'.put0 Only'.refl hD, upd_same, RowsIn.nil, (fun _ h => nomatch h), (fun _ h => nomatch h)⟩ (fun i H' _ ⟨ts, p1, _⟩ => SqL.ext p1 h) (fun i x H' hi p => ?_) (fun H' ⟨ts, p1, p2, p3, p4, p5⟩ => q Dl ts H' hD p1 p2 p3 p4 p5)⟩
  have hil : i < xs.length := (List.getElem?_eq_some_iff.mp hi).1
  exact ⟨hw x, rows_turn hD p (by omega) fun hne Q' k => he i x H' Dl hi p.choose_spec.1 hD hne Q' k⟩
end
end Flow

/-! plain: readings one behind the other: lengths, good states -/
namespace Flow
def ROks (ss : List RSt) : Prop := ∀ s, s ∈ ss → ROk s
theorem rone_len : ∀ (n : Nat) (ss : List RSt) (b : Int), (rone n ss b).2.1.length = ss.length
  | 0, ss, b => rfl
  | n + 1, [], b => rfl
  | n + 1, s :: ss, b => by
    have key : ∀ (r : Row) (ss : List RSt), (rseq (rone n) ss r).2.1.length = ss.length := by
      intro r
      induction r with
      | nil => intro ss; rfl
      | cons x r ih =>
        intro ss
        have h1 := rone_len n ss x
        show (match rone n ss x with | (o, ss', some y) => (o, ss', some y) | (o, ss', none) => (o ++ (rseq (rone n) ss' r).1, (rseq (rone n) ss' r).2)).2.1.length = _
        split
        · rename_i e
          rw [e] at h1
          exact h1
        · rename_i ss' e
          rw [e] at h1
          exact (ih ss').trans h1
    show (match rtake s b with | .wrong place => (([], s :: ss, some (.wrong (n : Int) place)) : Told) | .ok row s' => ((rseq (rone n) ss row).1, s' :: (rseq (rone n) ss row).2.1, (rseq (rone n) ss row).2.2)).2.1.length = _
    split
    · rfl
    · rw [List.length_cons, key, List.length_cons]
theorem rseq_cons (f : List RSt → Int → Told) (ss : List RSt) (b : Int) (r : Row) : rseq f ss (b :: r) = (match f ss b with
    | (o, ss', some x) => (o, ss', some x)
    | (o, ss', none) => (o ++ (rseq f ss' r).1, (rseq f ss' r).2)) := rfl
theorem rone_oks : ∀ (n : Nat) (ss : List RSt) (b : Int), ROks ss → By b → ROks (rone n ss b).2.1 ∧ Bys (rone n ss b).1
  | 0, ss, b, h, hb => ⟨h, bys_cons hb bys_nil⟩
  | n + 1, [], b, h, hb => ⟨h, bys_cons hb bys_nil⟩
  | n + 1, s :: ss, b, h, hb => by
    have hs : ROk s := h s (List.mem_cons_self ..)
    have ht : ROks ss := fun x hx => h x (List.mem_cons_of_mem _ hx)
    have key : ∀ (r : Row) (ss : List RSt), ROks ss → Bys r → ROks (rseq (rone n) ss r).2.1 ∧ Bys (rseq (rone n) ss r).1 := by
      intro r
      induction r with
      | nil => intro ss h _; exact ⟨h, bys_nil⟩
      | cons x r ih =>
        intro ss h hr
        have h1 := rone_oks n ss x h hr.head
        rw [rseq_cons]
        split
        · rename_i e
          rw [e] at h1
          exact h1
        · rename_i ss' e
          rw [e] at h1
          have h2 := ih ss' h1.1 hr.tail
          exact ⟨h2.1, bys_app h1.2 h2.2⟩
    show ROks (match rtake s b with | .wrong place => (([], s :: ss, some (.wrong (n : Int) place)) : Told) | .ok row s' => ((rseq (rone n) ss row).1, s' :: (rseq (rone n) ss row).2.1, (rseq (rone n) ss row).2.2)).2.1 ∧ Bys (match rtake s b with | .wrong place => (([], s :: ss, some (.wrong (n : Int) place)) : Told) | .ok row s' => ((rseq (rone n) ss row).1, s' :: (rseq (rone n) ss row).2.1, (rseq (rone n) ss row).2.2)).1
    split
    · exact ⟨h, bys_nil⟩
    · rename_i row s' e
      obtain ⟨k1, k2⟩ := rtake_ok hs hb e
      obtain ⟨k3, k4⟩ := key row ss ht k2
      refine ⟨fun x hx => ?_, k4⟩
      rcases List.mem_cons.mp hx with z | z
      · rw [z]; exact k1
      · exact k3 x z
theorem rseq_oks (n : Nat) : ∀ (r : Row) (ss : List RSt), ROks ss → Bys r → ROks (rseq (rone n) ss r).2.1 ∧ Bys (rseq (rone n) ss r).1
  | [], ss, h, _ => ⟨h, bys_nil⟩
  | x :: r, ss, h, hr => by
    have h1 := rone_oks n ss x h hr.head
    rw [rseq_cons]
    split
    · rename_i e
      rw [e] at h1
      exact h1
    · rename_i ss' e
      rw [e] at h1
      have h2 := rseq_oks n r ss' h1.1 hr.tail
      exact ⟨h2.1, bys_app h1.2 h2.2⟩
theorem rone_more (n : Nat) (s : RSt) (ss : List RSt) (b : Int) : rone (n + 1) (s :: ss) b = (match rtake s b with
    | .wrong place => (([], s :: ss, some (.wrong (n : Int) place)) : Told)
    | .ok row s' => ((rseq (rone n) ss row).1, s' :: (rseq (rone n) ss row).2.1, (rseq (rone n) ss row).2.2)) := rfl
/-- the end of a part, and what comes of it through the parts inner to it -/
def rclose (n : Nat) (s : RSt) (ss : List RSt) : Told := match rend s with
  | .wrong place => ([], ss, some (.wrong (n : Int) place))
  | .cut => ([], ss, some (.cut (n : Int)))
  | .ok row => rseq (rone n) ss row
theorem rseq_len (n : Nat) : ∀ (r : Row) (ss : List RSt), (rseq (rone n) ss r).2.1.length = ss.length
  | [], ss => rfl
  | x :: r, ss => by
    have h1 := rone_len n ss x
    rw [rseq_cons]
    split
    · rename_i e
      rw [e] at h1
      exact h1
    · rename_i ss' e
      rw [e] at h1
      exact (rseq_len n r ss').trans h1
theorem rclose_len (n : Nat) (s : RSt) (ss : List RSt) : (rclose n s ss).2.1.length = ss.length := by
  unfold rclose
  split
  · rfl
  · rfl
  · exact rseq_len n _ ss
theorem rclose_oks (n : Nat) {s : RSt} {ss : List RSt} (hs : ROk s) (h : ROks ss) : ROks (rclose n s ss).2.1 ∧ Bys (rclose n s ss).1 := by
  unfold rclose
  split
  · exact ⟨h, bys_nil⟩
  · exact ⟨h, bys_nil⟩
  · rename_i row e
    exact rseq_oks n row ss h (rend_ok hs e)
theorem rendAll_more (n : Nat) (s : RSt) (ss : List RSt) : rendAll (n + 1) (s :: ss) = (match rclose n s ss with
    | (o, _, some x) => (o, some x)
    | (o, ss', none) => (o ++ (rendAll n ss').1, (rendAll n ss').2)) := by
  unfold rclose
  show (match rend s with
    | .wrong place => (([], some (.wrong (n : Int) place)) : Row × Option Fault)
    | .cut => ([], some (.cut (n : Int)))
    | .ok row =>
      match rseq (rone n) ss row with
      | (o, _, some x) => (o, some x)
      | (o, ss', none) => (o ++ (rendAll n ss').1, (rendAll n ss').2)) = _
  cases rend s <;> rfl
end Flow

/-! plain: reading layer by layer; what is written is read again -/
namespace Flow
/-- a row through one reader: what is told, the state, the fault's place -/
def rfeed : RSt → Row → Row × RSt × Option Int
  | s, [] => ([], s, none)
  | s, b :: r => match rtake s b with
    | .wrong place => ([], s, some place)
    | .ok o s' => (o ++ (rfeed s' r).1, (rfeed s' r).2)
theorem rfeed_cons (s : RSt) (b : Int) (r : Row) : rfeed s (b :: r) = (match rtake s b with
    | .wrong place => (([], s, some place) : Row × RSt × Option Int)
    | .ok o s' => (o ++ (rfeed s' r).1, (rfeed s' r).2)) := rfl
theorem rfeed_app : ∀ (s : RSt) (x y : Row), rfeed s (x ++ y) = (match rfeed s x with
    | (o, s', some p) => (o, s', some p)
    | (o, s', none) => (o ++ (rfeed s' y).1, (rfeed s' y).2))
  | s, [], y => rfl
  | s, b :: x, y => by
    rw [List.cons_append, rfeed_cons, rfeed_cons]
    cases rtake s b with
    | wrong p => rfl
    | ok o s' =>
      dsimp only
      rw [rfeed_app s' x y]
      generalize rfeed s' x = q
      obtain ⟨o1, s1, f⟩ := q
      cases f with
      | none =>
        dsimp only
        rw [List.append_assoc]
      | some p => rfl
theorem rseq_app (f : List RSt → Int → Told) : ∀ (x : Row) (ss : List RSt) (y : Row), rseq f ss (x ++ y) = (match rseq f ss x with
    | (o, ss', some p) => (o, ss', some p)
    | (o, ss', none) => (o ++ (rseq f ss' y).1, (rseq f ss' y).2))
  | [], ss, y => rfl
  | b :: x, ss, y => by
    rw [List.cons_append, rseq_cons, rseq_cons]
    generalize f ss b = q
    obtain ⟨o, ss', fl⟩ := q
    cases fl with
    | some p => rfl
    | none =>
      dsimp only
      rw [rseq_app f x ss' y]
      generalize rseq f ss' x = q
      obtain ⟨o1, s1, f1⟩ := q
      cases f1 with
      | none =>
        dsimp only
        rw [List.append_assoc]
      | some p => rfl
/-- the outermost part's row first, then what it tells through the others -/
theorem rseq_layer (n : Nat) : ∀ (r : Row) (s : RSt) (ss : List RSt),
    (rseq (rone (n + 1)) (s :: ss) r).1 = (rseq (rone n) ss (rfeed s r).1).1 ∧
    (rseq (rone (n + 1)) (s :: ss) r).2.2 = (match (rseq (rone n) ss (rfeed s r).1).2.2 with
      | some x => some x
      | none => (rfeed s r).2.2.map (Fault.wrong (n : Int))) ∧
    ((rseq (rone n) ss (rfeed s r).1).2.2 = none → (rseq (rone (n + 1)) (s :: ss) r).2.1 = (rfeed s r).2.1 :: (rseq (rone n) ss (rfeed s r).1).2.1)
  | [], s, ss => ⟨rfl, rfl, fun _ => rfl⟩
  | b :: r, s, ss => by
    rw [rseq_cons, rone_more, rfeed_cons]
    cases rtake s b with
    | wrong p => exact ⟨rfl, rfl, fun _ => rfl⟩
    | ok o s' =>
      dsimp only
      rw [rseq_app]
      generalize hq : rseq (rone n) ss o = q
      obtain ⟨o1, ss1, f1⟩ := q
      cases f1 with
      | some x => exact ⟨rfl, rfl, fun h => nomatch h⟩
      | none =>
        dsimp only
        obtain ⟨i1, i2, i3⟩ := rseq_layer n r s' ss1
        refine ⟨by rw [i1], i2, i3⟩
inductive LF where
  | wrong (place : Int)
  | cut
def LF.at_ (n : Int) : LF → Fault
  | .wrong p => .wrong n p
  | .cut => .cut n
/-- a whole stream of one layer: what is told, the fault -/
def rfin (s : RSt) (r : Row) : Row × Option LF := match rfeed s r with
  | (o, _, some p) => (o, some (.wrong p))
  | (o, s', none) => match rend s' with
    | .wrong p => (o, some (.wrong p))
    | .cut => (o, some .cut)
    | .ok row => (o ++ row, none)
def rall (n : Nat) (ss : List RSt) (r : Row) : Row × Option Fault := match rseq (rone n) ss r with
  | (o, _, some x) => (o, some x)
  | (o, ss', none) => (o ++ (rendAll n ss').1, (rendAll n ss').2)
theorem rall_layer (n : Nat) (s : RSt) (ss : List RSt) (r : Row) : rall (n + 1) (s :: ss) r = (match rfin s r with
    | (o, none) => rall n ss o
    | (o, some f) => match rseq (rone n) ss o with
      | (o2, _, some x) => (o2, some x)
      | (o2, _, none) => (o2, some (f.at_ (n : Int)))) := by
  obtain ⟨h1, h2, h3⟩ := rseq_layer n r s ss
  unfold rall rfin
  generalize hF : rfeed s r = F at *
  obtain ⟨o, s', fo⟩ := F
  dsimp only at h1 h2 h3
  generalize hL : rseq (rone (n + 1)) (s :: ss) r = L at *
  obtain ⟨l1, l2, l3⟩ := L
  dsimp only at h1 h2 h3
  subst h1
  cases fo with
  | some p =>
    dsimp only
    generalize hG : rseq (rone n) ss o = G at *
    obtain ⟨g1, g2, g3⟩ := G
    cases g3 with
    | some x =>
      have e : l3 = some x := h2
      subst e
      rfl
    | none =>
      have e : l3 = some (Fault.wrong (n : Int) p) := h2
      subst e
      rfl
  | none =>
    dsimp only
    cases hE : rend s' with
    | wrong p =>
      dsimp only
      generalize hG : rseq (rone n) ss o = G at *
      obtain ⟨g1, g2, g3⟩ := G
      cases g3 with
      | some x =>
        have e : l3 = some x := h2
        subst e
        rfl
      | none =>
        have e : l3 = none := h2
        subst e
        have e2 : l2 = s' :: g2 := h3 rfl
        subst e2
        dsimp only
        rw [rendAll_more]
        unfold rclose
        rw [hE]
        show (g1 ++ [], _) = _
        rw [List.append_nil]
        rfl
    | cut =>
      dsimp only
      generalize hG : rseq (rone n) ss o = G at *
      obtain ⟨g1, g2, g3⟩ := G
      cases g3 with
      | some x =>
        have e : l3 = some x := h2
        subst e
        rfl
      | none =>
        have e : l3 = none := h2
        subst e
        have e2 : l2 = s' :: g2 := h3 rfl
        subst e2
        dsimp only
        rw [rendAll_more]
        unfold rclose
        rw [hE]
        show (g1 ++ [], _) = _
        rw [List.append_nil]
        rfl
    | ok row =>
      dsimp only
      rw [rseq_app]
      generalize hG : rseq (rone n) ss o = G at *
      obtain ⟨g1, g2, g3⟩ := G
      cases g3 with
      | some x =>
        have e : l3 = some x := h2
        subst e
        rfl
      | none =>
        have e : l3 = none := h2
        subst e
        have e2 : l2 = s' :: g2 := h3 rfl
        subst e2
        dsimp only
        rw [rendAll_more]
        unfold rclose
        rw [hE]
        dsimp only
        generalize rseq (rone n) g2 row = R
        obtain ⟨r1, r2, r3⟩ := R
        cases r3 with
        | some x => rfl
        | none =>
          dsimp only
          rw [List.append_assoc]
theorem readAll_rall (lays : List Lay) (r : Row) : readAll lays r = rall lays.length (lays.reverse.map newR) r := by
  unfold readAll rall rrow
  have hl : (lays.reverse.map newR).length = lays.length := by rw [List.length_map, List.length_reverse]
  rw [hl]
  have h2 := rseq_len lays.length r (lays.reverse.map newR)
  rw [hl] at h2
  generalize rseq (rone lays.length) (lays.reverse.map newR) r = G at *
  obtain ⟨g1, g2, g3⟩ := G
  cases g3 with
  | some x => rfl
  | none =>
    have h3 : g2.length = lays.length := h2
    dsimp only
    rw [h3]
theorem readAll_snoc (lays : List Lay) (ly : Lay) (r : Row) : readAll (lays ++ [ly]) r = (match rfin (newR ly) r with
    | (o, none) => readAll lays o
    | (o, some f) => match rseq (rone lays.length) (lays.reverse.map newR) o with
      | (o2, _, some x) => (o2, some x)
      | (o2, _, none) => (o2, some (f.at_ (lays.length : Int)))) := by
  rw [readAll_rall, List.length_append, List.reverse_append]
  show rall (lays.length + 1) (newR ly :: lays.reverse.map newR) r = _
  rw [rall_layer]
  generalize rfin (newR ly) r = F
  obtain ⟨o, f⟩ := F
  cases f with
  | none => exact (readAll_rall lays o).symm
  | some f => rfl
theorem readAll_nil (r : Row) : readAll [] r = (r, none) := by
  rw [readAll_rall]
  show rall 0 [] r = _
  unfold rall
  have h : ∀ r : Row, rseq (rone 0) [] r = (r, [], none) := by
    intro r
    induction r with
    | nil => rfl
    | cons b r ih =>
      rw [rseq_cons]
      show ([b] ++ (rseq (rone 0) [] r).1, (rseq (rone 0) [] r).2) = _
      rw [ih]
      rfl
  rw [h]
  show (r ++ [], none) = _
  rw [List.append_nil]
/-! ### a layer's writer and reader -/
theorem idx_signOf {i : Int} (h0 : 0 ≤ i) (h : i < 64) : (signsT.idxOf (signOf i) : Int) = i := by
  have key : ∀ j, j ∈ List.range 64 → (signsT.idxOf (signOf ((j : Nat) : Int)) : Int) = (j : Int) := by decide +kernel
  have := key i.toNat (List.mem_range.mpr (by omega))
  rw [show ((i.toNat : Nat) : Int) = i by omega] at this
  exact this
theorem sign_mem {i : Int} (h0 : 0 ≤ i) (h : i < 64) : signOf i ∈ signsT := gI_mem h0 h
/-- a reader that has read all that a writer wrote so far; what it has still to tell -/
def RSim : WSt → RSt → Row → Prop
  | .add key at_, .add key' at', p => key' = key ∧ at' = at_ ∧ p = []
  | .front row, .front row', p => row' = row ∧ p = []
  | .esc e, .esc e' _ m, p => e' = e ∧ m = false ∧ p = []
  | .runs many byte, .runs _ m lastN lastB, p => m = 0 ∧ p = List.replicate many.toNat byte ∧ (many = 0 → ¬(0 < lastN ∧ lastN < 255)) ∧ ¬(byte = lastB ∧ 0 < lastN ∧ lastN < 255)
  | .chunks size held, .chunks size' _ left isLast, p => size' = size ∧ left = 0 ∧ isLast = false ∧ p = held
  | .checks size many check, .checks size' _ check' held, p => size' = size ∧ p = held ∧ (held.length : Int) = many ∧ checkAll check' held = check
  | .signs many value, .signs _ m v, p => (many = 0 ∧ m = 0 ∧ v = 0 ∧ p = []) ∨ (many = 2 ∧ m = 6 ∧ 0 ≤ v ∧ v < 64 ∧ p = [v * 4 + value]) ∨ (many = 4 ∧ m = 4 ∧ 0 ≤ v ∧ v < 16 ∧ p = [v * 16 + value])
  | _, _, _ => False
theorem rfeed_one (s : RSt) (b : Int) {o : Row} {s' : RSt} (h : rtake s b = .ok o s') : rfeed s [b] = (o, s', none) := by
  rw [rfeed_cons, h]
  show (o ++ [], s', none) = _
  rw [List.append_nil]
theorem rfeed_two (s : RSt) (a b : Int) {o o2 : Row} {s' s2 : RSt} (h : rtake s a = .ok o s') (h2 : rtake s' b = .ok o2 s2) : rfeed s [a, b] = (o ++ o2, s2, none) := by
  rw [rfeed_cons, h]
  show (o ++ (rfeed s' [b]).1, (rfeed s' [b]).2) = _
  rw [rfeed_one s' b h2]
theorem feed_left (size : Int) : ∀ (r : Row) (done left : Int) (isLast : Bool), left = (r.length : Int) → rfeed (.chunks size done left isLast) r = (r, .chunks size (done + r.length) 0 isLast, none)
  | [], done, left, isLast, h => by
    have h' : left = 0 := by simpa using h
    subst h'
    show ([], RSt.chunks size done 0 isLast, none) = _
    simp
  | b :: r, done, left, isLast, h => by
    rw [List.length_cons] at h
    have h1 : rtake (.chunks size done left isLast) b = .ok [b] (.chunks size (done + 1) (left - 1) isLast) := by
      simp only [rtake]
      rw [if_pos (by omega)]
    rw [rfeed_cons, h1]
    dsimp only
    rw [feed_left size r (done + 1) (left - 1) isLast (by omega), List.length_cons]
    have e : done + 1 + (r.length : Int) = done + ((r.length + 1 : Nat) : Int) := by omega
    rw [e]
    rfl
theorem checkAll_app : ∀ (c : Int) (x y : Row), checkAll c (x ++ y) = checkAll (checkAll c x) y
  | c, [], y => rfl
  | c, b :: x, y => checkAll_app (nextCheck c b) x y
theorem block_of (x : Row) (a b : Int) : blockRow (x ++ [a, b]) = x ∧ blockTail (x ++ [a, b]) = [a, b] := by
  unfold blockRow blockTail
  have h : (x ++ [a, b]).length - 2 = x.length := by simp
  rw [h]
  exact ⟨List.take_left .., List.drop_left ..⟩
theorem feed_held (size check : Int) : ∀ (r : Row) (done : Int) (held : Row), (held.length : Int) + r.length < size + 2 → rfeed (.checks size done check held) r = ([], .checks size (done + r.length) check (held ++ r), none)
  | [], done, held, h => by
    show ([], RSt.checks size done check held, none) = _
    simp
  | b :: r, done, held, h => by
    rw [List.length_cons] at h
    have h1 : rtake (.checks size done check held) b = .ok [] (.checks size (done + 1) check (held ++ [b])) := by
      simp only [rtake]
      rw [if_neg (by simp; omega)]
    rw [rfeed_cons, h1]
    dsimp only
    rw [feed_held size check r (done + 1) (held ++ [b]) (by simp; omega), List.length_cons, List.append_assoc]
    have e : done + 1 + (r.length : Int) = done + ((r.length + 1 : Nat) : Int) := by omega
    rw [e]
    rfl
theorem rep_snoc (m : Int) (b : Int) (h : 0 ≤ m) : List.replicate m.toNat b ++ [b] = List.replicate (m + 1).toNat b := by
  have e : (m + 1).toNat = m.toNat + 1 := by omega
  rw [e, List.replicate_succ']
theorem sim_take {ws : WSt} {rs : RSt} {p : Row} {b : Int} (h : RSim ws rs p) (hw : WOk ws) (hb : By b) : ∃ told rs' p', rfeed rs (wtake ws b).1 = (told, rs', none) ∧ told ++ p' = p ++ [b] ∧ RSim (wtake ws b).2 rs' p' := by
  obtain ⟨b0, b1⟩ := id hb
  cases ws with
  | add key at_ =>
    cases rs <;> simp only [RSim] at h
    rename_i key' at'
    obtain ⟨rfl, rfl, rfl⟩ := h
    refine ⟨[b], _, [], rfeed_one _ _ (o := [b]) (s' := .add key' ((at' + 1) % (key'.length : Int))) ?_, rfl, ⟨rfl, rfl, rfl⟩⟩
    simp only [rtake]
    have e : ((b + gI key' at') % 256 - gI key' at') % 256 = b := by omega
    rw [e]
  | front row =>
    cases rs <;> simp only [RSim] at h
    rename_i row'
    obtain ⟨rfl, rfl⟩ := h
    refine ⟨[b], _, [], rfeed_one _ _ (o := [b]) (s' := .front (moveFront row' (row'.idxOf b))) ?_, rfl, ⟨rfl, rfl⟩⟩
    simp only [rtake]
    have hm := hw.2 b hb
    have hl : row'.idxOf b < row'.length := List.idxOf_lt_length_of_mem hm
    have e : gI row' (row'.idxOf b : Int) = b := by
      unfold gI
      rw [Int.toNat_natCast]
      simp [List.getD, hl, List.getElem_idxOf]
    rw [e, Int.toNat_natCast]
  | esc e =>
    cases rs <;> simp only [RSim] at h
    rename_i e' done m
    obtain ⟨rfl, rfl, rfl⟩ := h
    show ∃ told rs' p', rfeed _ (escOut e' b) = _ ∧ _ ∧ RSim (.esc e') rs' p'
    unfold escOut
    by_cases h1 : b = e' % 256
    · rw [if_pos h1]
      refine ⟨_, _, [], rfeed_two _ _ _ (o := []) (s' := .esc e' (done + 1) true) ?_ (o2 := [b]) (s2 := .esc e' (done + 1 + 1) false) ?_, rfl, ⟨rfl, rfl, rfl⟩⟩
      · simp only [rtake]
        rw [if_neg (by decide), if_neg (by omega), if_pos trivial]
      · simp only [rtake]
        rw [if_pos trivial, if_pos trivial, h1]
    · rw [if_neg h1]
      by_cases h2 : b = (e' + 1) % 256
      · rw [if_pos h2]
        refine ⟨_, _, [], rfeed_two _ _ _ (o := []) (s' := .esc e' (done + 1) true) ?_ (o2 := [b]) (s2 := .esc e' (done + 1 + 1) false) ?_, rfl, ⟨rfl, rfl, rfl⟩⟩
        · simp only [rtake]
          rw [if_neg (by decide), if_neg (by omega), if_pos trivial]
        · simp only [rtake]
          rw [if_pos trivial, if_neg (by omega), if_pos trivial, h2]
      · rw [if_neg h2]
        refine ⟨_, _, [], rfeed_one _ _ (o := [b]) (s' := .esc e' (done + 1) false) ?_, rfl, ⟨rfl, rfl, rfl⟩⟩
        simp only [rtake]
        rw [if_neg (by decide), if_neg h1, if_neg h2]
  | runs many byte =>
    cases rs <;> simp only [RSim] at h
    rename_i done m lastN lastB
    obtain ⟨rfl, rfl, g1, g2⟩ := h
    obtain ⟨k0, k1, k2⟩ := hw
    show ∃ told rs' p', rfeed _ (takeRuns many byte b).1 = _ ∧ _ ∧ RSim (takeRuns many byte b).2 rs' p'
    unfold takeRuns
    by_cases h1 : many > 0 ∧ b ≠ byte
    · rw [if_pos h1]
      refine ⟨_, _, [b], rfeed_two _ _ _ (o := []) (s' := .runs (done + 1) many lastN lastB) ?_ (o2 := List.replicate many.toNat byte) (s2 := .runs (done + 1 + 1) 0 many byte) ?_, rfl, ⟨rfl, rfl, by omega, by omega⟩⟩
      · simp only [rtake]
        rw [if_pos trivial, if_neg (by omega)]
      · simp only [rtake]
        rw [if_neg (by omega), if_neg g2]
    · rw [if_neg h1]
      have hbm : many = 0 ∨ b = byte := by omega
      have hrep : List.replicate many.toNat byte = List.replicate many.toNat b := by
        rcases hbm with z | z
        · rw [z]; rfl
        · rw [z]
      have g3 : ¬(b = lastB ∧ 0 < lastN ∧ lastN < 255) := by
        rcases hbm with z | z
        · intro q
          exact g1 z q.2
        · rw [z]; exact g2
      by_cases h2 : many + 1 = 255
      · rw [if_pos h2]
        refine ⟨_, _, [], rfeed_two _ _ _ (o := []) (s' := .runs (done + 1) 255 lastN lastB) ?_ (o2 := List.replicate (255 : Int).toNat b) (s2 := .runs (done + 1 + 1) 0 255 b) ?_, ?_, ⟨rfl, rfl, by omega, by omega⟩⟩
        · simp only [rtake]
          rw [if_pos trivial, if_neg (by omega)]
        · simp only [rtake]
          rw [if_neg (by omega), if_neg g3]
        · rw [hrep, rep_snoc many b k0, h2]
          simp
      · rw [if_neg h2]
        refine ⟨[], _, _, rfl, rfl, ⟨rfl, ?_, by omega, g3⟩⟩
        rw [hrep]
        exact rep_snoc many b k0
  | chunks size held =>
    cases rs <;> simp only [RSim] at h
    rename_i size' done left isLast
    obtain ⟨rfl, rfl, rfl, rfl⟩ := h
    obtain ⟨k0, k1, k2, k3⟩ := hw
    show ∃ told rs' p', rfeed _ (takeChunks size' p b).1 = _ ∧ _ ∧ RSim (takeChunks size' p b).2 rs' p'
    unfold takeChunks
    by_cases h1 : ((p ++ [b]).length : Int) = size'
    · rw [if_pos h1, h1]
      have ht : rtake (.chunks size' done 0 false) size' = .ok [] (.chunks size' (done + 1) size' (decide (size' < size'))) := by
        simp only [rtake]
        rw [if_neg (by omega), if_neg (by simp)]
      refine ⟨p ++ [b], .chunks size' (done + 1 + (p ++ [b]).length) 0 (decide (size' < size')), [], ?_, by rw [List.append_nil], ⟨rfl, rfl, by simp, rfl⟩⟩
      rw [rfeed_cons, ht]
      dsimp only
      rw [feed_left size' (p ++ [b]) (done + 1) size' _ h1.symm]
      simp
    · rw [if_neg h1]
      exact ⟨[], _, p ++ [b], rfl, rfl, ⟨rfl, rfl, rfl, rfl⟩⟩
  | checks size many check =>
    cases rs <;> simp only [RSim] at h
    rename_i size' done check' held
    obtain ⟨rfl, rfl, hl, hc⟩ := h
    obtain ⟨k0, k1, k2, k3, k4, k5⟩ := hw
    have hn : checkAll check' (p ++ [b]) = nextCheck check b := by
      rw [checkAll_app, hc]
      rfl
    show ∃ told rs' p', rfeed _ (takeChecks size' many check b).1 = _ ∧ _ ∧ RSim (takeChecks size' many check b).2 rs' p'
    unfold takeChecks
    by_cases h1 : many + 1 < size'
    · rw [if_pos h1]
      refine ⟨[], _, p ++ [b], feed_held size' check' [b] done p (by simp; omega), rfl, ⟨rfl, rfl, ?_, hn⟩⟩
      simp
      omega
    · rw [if_neg h1]
      refine ⟨p ++ [b], .checks size' (done + 1 + 1 + 1) (nextCheck check b) [], [], ?_, by rw [List.append_nil], ⟨rfl, rfl, rfl, rfl⟩⟩
      have e1 : rfeed (.checks size' done check' p) [b, nextCheck check b / 256] = ([], .checks size' (done + 1 + 1) check' (p ++ [b] ++ [nextCheck check b / 256]), none) := by
        rw [feed_held size' check' [b, nextCheck check b / 256] done p (by simp; omega)]
        simp
        omega
      have e2 : b :: checkBytes (nextCheck check b) = [b, nextCheck check b / 256] ++ [nextCheck check b % 256] := rfl
      rw [e2, rfeed_app, e1]
      dsimp only
      obtain ⟨q1, q2⟩ := block_of (p ++ [b]) (nextCheck check b / 256) (nextCheck check b % 256)
      have e3 : rtake (.checks size' (done + 1 + 1) check' (p ++ [b] ++ [nextCheck check b / 256])) (nextCheck check b % 256) = .ok (p ++ [b]) (.checks size' (done + 1 + 1 + 1) (nextCheck check b) []) := by
        have e4 : p ++ [b] ++ [nextCheck check b / 256] ++ [nextCheck check b % 256] = p ++ [b] ++ [nextCheck check b / 256, nextCheck check b % 256] := by simp
        simp only [rtake]
        rw [e4, q1, q2, hn, if_pos (by simp; omega)]
        exact if_pos rfl
      rw [rfeed_one _ _ e3]
      rfl
  | signs many value =>
    cases rs <;> simp only [RSim] at h
    rename_i done m v
    obtain ⟨k0, k1, k2⟩ := hw
    show ∃ told rs' p', rfeed _ (takeSigns many value b).1 = _ ∧ _ ∧ RSim (takeSigns many value b).2 rs' p'
    unfold takeSigns
    rcases h with ⟨rfl, rfl, rfl, rfl⟩ | ⟨rfl, rfl, v0, v1, rfl⟩ | ⟨rfl, rfl, v0, v1, rfl⟩
    · rw [pw0] at k2
      have ev : value = 0 := by omega
      subst ev
      rw [if_neg (by decide), show pow2 (0 + 2) = 4 from rfl]
      have hi := idx_signOf (i := (0 * 256 + b) / 4) (by omega) (by omega)
      refine ⟨[], _, [b], rfeed_one _ _ (o := []) (s' := .signs (done + 1) 6 ((0 * 256 + b) / 4)) ?_, rfl, Or.inr (Or.inl ⟨rfl, rfl, by omega, by omega, ?_⟩)⟩
      · simp only [rtake]
        rw [if_pos (sign_mem (by omega) (by omega)), if_pos (by decide), hi]
        simp
      · congr 1
        omega
    · rw [pw2] at k2
      rw [if_neg (by decide), show pow2 (2 + 2) = 16 from rfl]
      have hi := idx_signOf (i := (value * 256 + b) / 16) (by omega) (by omega)
      refine ⟨[v * 4 + value], _, [b], rfeed_one _ _ (o := [v * 4 + value]) (s' := .signs (done + 1) 4 ((v * 64 + (value * 256 + b) / 16) % 16)) ?_, rfl, Or.inr (Or.inr ⟨rfl, rfl, by omega, by omega, ?_⟩)⟩
      · simp only [rtake]
        rw [if_pos (sign_mem (by omega) (by omega)), if_neg (by decide), hi, show pow2 (6 - 2) = 16 from rfl]
        have e : (v * 64 + (value * 256 + b) / 16) / 16 = v * 4 + value := by omega
        rw [e]
        rfl
      · congr 1
        omega
    · rw [pw4] at k2
      rw [if_pos (by decide), show pow2 (4 + 2) = 64 from rfl, show pow2 (4 + 2 - 6) = 1 from rfl]
      have hi := idx_signOf (i := (value * 256 + b) / 64) (by omega) (by omega)
      have hi2 := idx_signOf (i := (value * 256 + b) % 64 / 1) (by omega) (by omega)
      refine ⟨_, _, [], rfeed_two _ _ _ (o := [v * 16 + value]) (s' := .signs (done + 1) 2 ((v * 64 + (value * 256 + b) / 64) % 4)) ?_ (o2 := [b]) (s2 := .signs (done + 1 + 1) 0 0) ?_, rfl, Or.inl ⟨rfl, rfl, rfl, rfl⟩⟩
      · simp only [rtake]
        rw [if_pos (sign_mem (by omega) (by omega)), if_neg (by decide), hi, show pow2 (4 - 2) = 4 from rfl]
        have e : (v * 64 + (value * 256 + b) / 64) / 4 = v * 16 + value := by omega
        rw [e]
        rfl
      · simp only [rtake]
        rw [if_pos (sign_mem (by omega) (by omega)), if_neg (by decide), hi2, show pow2 (2 - 2) = 1 from rfl]
        have e : ((v * 64 + (value * 256 + b) / 64) % 4 * 64 + (value * 256 + b) % 64 / 1) / 1 = b := by omega
        have e2 : ((v * 64 + (value * 256 + b) / 64) % 4 * 64 + (value * 256 + b) % 64 / 1) % 1 = 0 := by omega
        rw [e, e2]
        rfl
theorem sim_end {ws : WSt} {rs : RSt} {p : Row} (h : RSim ws rs p) (hw : WOk ws) : ∃ told rs' t2, rfeed rs (wend ws) = (told, rs', none) ∧ rend rs' = .ok t2 ∧ told ++ t2 = p := by
  cases ws with
  | add key at_ =>
    cases rs <;> simp only [RSim] at h
    obtain ⟨rfl, rfl, rfl⟩ := h
    exact ⟨[], _, [], rfl, rfl, rfl⟩
  | front row =>
    cases rs <;> simp only [RSim] at h
    obtain ⟨rfl, rfl⟩ := h
    exact ⟨[], _, [], rfl, rfl, rfl⟩
  | esc e =>
    cases rs <;> simp only [RSim] at h
    obtain ⟨rfl, rfl, rfl⟩ := h
    exact ⟨[], _, [], rfl, rfl, rfl⟩
  | runs many byte =>
    cases rs <;> simp only [RSim] at h
    rename_i done m lastN lastB
    obtain ⟨rfl, rfl, g1, g2⟩ := h
    obtain ⟨k0, k1, k2⟩ := hw
    show ∃ told rs' t2, rfeed _ (if many = 0 then [] else [many, byte]) = _ ∧ _
    by_cases h0 : many = 0
    · subst h0
      exact ⟨[], _, [], rfl, rfl, rfl⟩
    · rw [if_neg h0]
      refine ⟨_, _, [], rfeed_two _ _ _ (o := []) (s' := .runs (done + 1) many lastN lastB) ?_ (o2 := List.replicate many.toNat byte) (s2 := .runs (done + 1 + 1) 0 many byte) ?_, rfl, by simp⟩
      · simp only [rtake]
        rw [if_pos trivial, if_neg h0]
      · simp only [rtake]
        rw [if_neg h0, if_neg g2]
  | chunks size held =>
    cases rs <;> simp only [RSim] at h
    rename_i size' done left isLast
    obtain ⟨rfl, rfl, rfl, rfl⟩ := h
    obtain ⟨k0, k1, k2, k3⟩ := hw
    have ht : rtake (.chunks size' done 0 false) (p.length : Int) = .ok [] (.chunks size' (done + 1) (p.length : Int) (decide ((p.length : Int) < size'))) := by
      simp only [rtake]
      rw [if_neg (by omega), if_neg (by simp; omega)]
    refine ⟨p, .chunks size' (done + 1 + p.length) 0 (decide ((p.length : Int) < size')), [], ?_, ?_, List.append_nil _⟩
    · show rfeed _ ((p.length : Int) :: p) = _
      rw [rfeed_cons, ht]
      dsimp only
      rw [feed_left size' p (done + 1) _ _ rfl]
      rfl
    · simp only [rend]
      rw [if_neg (by simp; omega)]
  | checks size many check =>
    cases rs <;> simp only [RSim] at h
    rename_i size' done check' held
    obtain ⟨rfl, rfl, hl, hc⟩ := h
    obtain ⟨k0, k1, k2, k3, k4, k5⟩ := hw
    refine ⟨[], _, p, feed_held size' check' (checkBytes check) done p (by simp [checkBytes]; omega), ?_, rfl⟩
    obtain ⟨q1, q2⟩ := block_of p (check / 256) (check % 256)
    simp only [rend]
    show (if (((p ++ [check / 256, check % 256]).length : Int) < 2) then _ else _) = _
    rw [if_neg (by simp; omega)]
    show (if blockTail (p ++ [check / 256, check % 256]) = checkBytes (checkAll check' (blockRow (p ++ [check / 256, check % 256]))) then REnd.ok (blockRow (p ++ [check / 256, check % 256])) else _) = _
    rw [q1, q2, hc]
    exact if_pos rfl
  | signs many value =>
    cases rs <;> simp only [RSim] at h
    rename_i done m v
    obtain ⟨k0, k1, k2⟩ := hw
    show ∃ told rs' t2, rfeed _ (if many = 0 then [] else [signOf (value * pow2 (6 - many))]) = _ ∧ _
    rcases h with ⟨rfl, rfl, rfl, rfl⟩ | ⟨rfl, rfl, v0, v1, rfl⟩ | ⟨rfl, rfl, v0, v1, rfl⟩
    · exact ⟨[], _, [], rfl, rfl, rfl⟩
    · rw [pw2] at k2
      rw [if_neg (by decide), show pow2 (6 - 2) = 16 from rfl]
      have hi := idx_signOf (i := value * 16) (by omega) (by omega)
      refine ⟨[v * 4 + value], _, [], rfeed_one _ _ (o := [v * 4 + value]) (s' := .signs (done + 1) 4 0) ?_, rfl, rfl⟩
      simp only [rtake]
      rw [if_pos (sign_mem (by omega) (by omega)), if_neg (by decide), hi, show pow2 (6 - 2) = 16 from rfl]
      have e : (v * 64 + value * 16) / 16 = v * 4 + value := by omega
      have e2 : (v * 64 + value * 16) % 16 = 0 := by omega
      rw [e, e2]
      rfl
    · rw [pw4] at k2
      rw [if_neg (by decide), show pow2 (6 - 4) = 4 from rfl]
      have hi := idx_signOf (i := value * 4) (by omega) (by omega)
      refine ⟨[v * 16 + value], _, [], rfeed_one _ _ (o := [v * 16 + value]) (s' := .signs (done + 1) 2 0) ?_, rfl, rfl⟩
      simp only [rtake]
      rw [if_pos (sign_mem (by omega) (by omega)), if_neg (by decide), hi, show pow2 (4 - 2) = 4 from rfl]
      have e : (v * 64 + value * 4) / 4 = v * 16 + value := by omega
      have e2 : (v * 64 + value * 4) % 4 = 0 := by omega
      rw [e, e2]
      rfl
theorem sim_feed : ∀ {r : Row} {ws : WSt} {rs : RSt} {p : Row}, RSim ws rs p → WOk ws → Bys r → ∃ told rs' p', rfeed rs (wfeed ws r).1 = (told, rs', none) ∧ told ++ p' = p ++ r ∧ RSim (wfeed ws r).2 rs' p'
  | [], ws, rs, p, h, hw, hb => ⟨[], rs, p, rfl, by simp, h⟩
  | b :: r, ws, rs, p, h, hw, hb => by
    obtain ⟨t1, r1, p1, a1, a2, a3⟩ := sim_take h hw hb.head
    obtain ⟨t2, r2, p2, c1, c2, c3⟩ := sim_feed a3 (wtake_ok hw hb.head).1 hb.tail
    refine ⟨t1 ++ t2, r2, p2, ?_, ?_, c3⟩
    · show rfeed rs ((wtake ws b).1 ++ (wfeed (wtake ws b).2 r).1) = _
      rw [rfeed_app, a1]
      dsimp only
      rw [c1]
    · rw [List.append_assoc, c2, ← List.append_assoc, a2, List.append_assoc]
      rfl
theorem sim_new {ly : Lay} (h : ly.Ok) : RSim (newW ly) (newR ly) [] := by
  cases ly with
  | add key => exact ⟨rfl, rfl, rfl⟩
  | front => exact ⟨rfl, rfl⟩
  | esc b => exact ⟨rfl, rfl, rfl⟩
  | runs => exact ⟨rfl, rfl, by omega, by omega⟩
  | chunks n => exact ⟨rfl, rfl, rfl, rfl⟩
  | checks n => exact ⟨rfl, rfl, rfl, rfl⟩
  | signs => exact Or.inl ⟨rfl, rfl, rfl, rfl⟩
/-- of one layer: what is written is read again -/
theorem layer_again {ly : Lay} (h : ly.Ok) {r : Row} (hb : Bys r) : rfin (newR ly) (wfin (newW ly) r) = (r, none) := by
  obtain ⟨t1, r1, p1, a1, a2, a3⟩ := sim_feed (sim_new h) (newW_ok h) hb
  obtain ⟨t2, r2, p2, c1, c2, c3⟩ := sim_end a3 (wfeed_ok (newW_ok h) hb).1
  unfold rfin wfin
  rw [rfeed_app, a1]
  dsimp only
  rw [c1]
  dsimp only
  rw [c2]
  show (t1 ++ t2 ++ p2, none) = _
  rw [List.append_assoc, c3, a2]
  rfl
theorem snoc_ind {α : Type} {P : List α → Prop} (h0 : P []) (h1 : ∀ l x, P l → P (l ++ [x])) (l : List α) : P l := by
  have key : ∀ (n : Nat) (l : List α), l.length = n → P l := by
    intro n
    induction n with
    | zero =>
      intro l hl
      rw [List.eq_nil_of_length_eq_zero hl]
      exact h0
    | succ n ih =>
      intro l hl
      rcases List.eq_nil_or_concat l with z | ⟨i, x, z⟩
      · rw [z]; exact h0
      · have e : l = i ++ [x] := by rw [z]; simp
        rw [e]
        refine h1 i x (ih i ?_)
        rw [e, List.length_append] at hl
        simpa using hl
  exact key l.length l rfl
/-- what is written is read again -/
theorem again (lays : List Lay) : (∀ ly, ly ∈ lays → ly.Ok) → ∀ row, Bys row → readAll lays (written lays row) = (row, none) := by
  refine snoc_ind (P := fun lays => (∀ ly, ly ∈ lays → ly.Ok) → ∀ row, Bys row → readAll lays (written lays row) = (row, none)) ?_ (fun l x ih h row hb => ?_) lays
  · intro _ row _
    rw [written_nil, readAll_nil]
  · have hx : x.Ok := h x (List.mem_append_right _ (List.mem_singleton.mpr rfl))
    have hl : ∀ ly, ly ∈ l → ly.Ok := fun ly hly => h ly (List.mem_append_left _ hly)
    rw [written_snoc, readAll_snoc, layer_again hx (written_by hl hb)]
    exact ih hl row hb
/-- a beginning of a stream that is read without a fault -/
theorem begin_ok (f : List RSt → Int → Told) {ss : List RSt} {x y : Row} {o : Row} {ss' : List RSt} (h : rseq f ss (x ++ y) = (o, ss', none)) : ∃ o1 ss1 o2, rseq f ss x = (o1, ss1, none) ∧ rseq f ss1 y = (o2, ss', none) ∧ o = o1 ++ o2 := by
  rw [rseq_app] at h
  generalize rseq f ss x = q at h
  obtain ⟨o1, s1, f1⟩ := q
  cases f1 with
  | some p => cases h
  | none =>
    dsimp only at h
    have h1 := congrArg Prod.fst h
    have h2 := congrArg Prod.snd h
    dsimp only at h1 h2
    exact ⟨o1, s1, (rseq f s1 y).1, rfl, by rw [← h2], h1.symm⟩
end Flow

/-! plain: a layer's reading, byte by byte, as the laws' own reading tells it -/
namespace Flow
/-- what comes of each byte, up to a fault -/
def rows0 : RSt → Row → List Row × RSt × Option Int
  | s, [] => ([], s, none)
  | s, b :: r => match rtake s b with
    | .wrong place => ([], s, some place)
    | .ok o s' => (o :: (rows0 s' r).1, (rows0 s' r).2)
theorem rows0_cons (s : RSt) (b : Int) (r : Row) : rows0 s (b :: r) = (match rtake s b with
    | .wrong place => (([], s, some place) : List Row × RSt × Option Int)
    | .ok o s' => (o :: (rows0 s' r).1, (rows0 s' r).2)) := rfl
theorem rows0_feed : ∀ (s : RSt) (r : Row), rfeed s r = ((rows0 s r).1.flatten, (rows0 s r).2)
  | s, [] => rfl
  | s, b :: r => by
    rw [rfeed_cons, rows0_cons]
    cases rtake s b with
    | wrong p => rfl
    | ok o s' =>
      dsimp only
      rw [rows0_feed s' r]
      rfl
theorem rows0_app : ∀ (s : RSt) (x y : Row), rows0 s (x ++ y) = (match rows0 s x with
    | (o, s', some p) => (o, s', some p)
    | (o, s', none) => (o ++ (rows0 s' y).1, (rows0 s' y).2))
  | s, [], y => rfl
  | s, b :: x, y => by
    rw [List.cons_append, rows0_cons, rows0_cons]
    cases rtake s b with
    | wrong p => rfl
    | ok o s' =>
      dsimp only
      rw [rows0_app s' x y]
      generalize rows0 s' x = q
      obtain ⟨o1, s1, f⟩ := q
      cases f with
      | none => rfl
      | some p => rfl
/-- a layer's whole reading: rows, one for each byte, and one for the end -/
def own (s : RSt) (r : Row) : List Row × Option LF := match rows0 s r with
  | (o, _, some p) => (o, some (.wrong p))
  | (o, s', none) => match rend s' with
    | .wrong p => (o, some (.wrong p))
    | .cut => (o, some .cut)
    | .ok row => (o ++ [row], none)
theorem own_fin (s : RSt) (r : Row) : rfin s r = ((own s r).1.flatten, (own s r).2) := by
  unfold rfin own
  rw [rows0_feed]
  generalize rows0 s r = q
  obtain ⟨o, s', f⟩ := q
  cases f with
  | some p => rfl
  | none =>
    dsimp only
    cases rend s' with
    | wrong p => rfl
    | cut => rfl
    | ok row =>
      dsimp only
      rw [List.flatten_append]
      show (_ ++ row, _) = (_ ++ (row ++ []), _)
      rw [List.append_nil]
/-- behind i bytes -/
def OwnAt (s : RSt) (r : Row) (i : Nat) (si : RSt) (rows : List Row) : Prop := rows0 s (r.take i) = (rows, si, none)
theorem drop_more2 {r : Row} {i : Nat} (h : i < r.length) : r.drop i = gI r (i : Int) :: r.drop (i + 1) := by
  have e : gI r (i : Int) = r[i] := by
    unfold gI
    rw [Int.toNat_natCast, List.getD_eq_getElem?_getD, List.getElem?_eq_getElem h]
    rfl
  rw [e]
  exact List.drop_eq_getElem_cons h
theorem rat_zero (s : RSt) (r : Row) : OwnAt s r 0 s [] := rfl
theorem rat_next {s si s' : RSt} {r : Row} {i : Nat} {rows : List Row} {o : Row} (h : OwnAt s r i si rows) (hi : i < r.length) (ht : rtake si (gI r (i : Int)) = .ok o s') : OwnAt s r (i + 1) s' (rows ++ [o]) := by
  unfold OwnAt at *
  rw [take_snoc hi, rows0_app, h]
  show (rows ++ (rows0 si [gI r (i : Int)]).1, (rows0 si [gI r (i : Int)]).2) = _
  rw [rows0_cons, ht]
  rfl
theorem rat_wrong {s si : RSt} {r : Row} {i : Nat} {rows : List Row} {p : Int} (h : OwnAt s r i si rows) (hi : i < r.length) (ht : rtake si (gI r (i : Int)) = .wrong p) : own s r = (rows, some (.wrong p)) := by
  unfold OwnAt at h
  have e : r = r.take i ++ gI r (i : Int) :: r.drop (i + 1) := by
    have h1 : r.drop i = gI r (i : Int) :: r.drop (i + 1) := by
      have h2 := drop_more2 hi
      exact h2
    rw [← h1, List.take_append_drop]
  unfold own
  rw [e, rows0_app, h]
  show (match (rows ++ (rows0 si (gI r (i : Int) :: r.drop (i + 1))).1, (rows0 si (gI r (i : Int) :: r.drop (i + 1))).2) with
    | (o, _, some p) => _
    | (o, s', none) => _) = _
  rw [rows0_cons, ht]
  simp
theorem rat_end {s si : RSt} {r : Row} {rows : List Row} (h : OwnAt s r r.length si rows) : own s r = (match rend si with
    | .wrong p => (rows, some (.wrong p))
    | .cut => (rows, some .cut)
    | .ok row => (rows ++ [row], none)) := by
  unfold OwnAt at h
  rw [List.take_length] at h
  unfold own
  rw [h]
theorem rat_len {s si : RSt} {r : Row} {i : Nat} {rows : List Row} (hi : i ≤ r.length) (h : OwnAt s r i si rows) : rows.length = i := by
  unfold OwnAt at h
  have key : ∀ (x : Row) (s si : RSt) (rows : List Row), rows0 s x = (rows, si, none) → rows.length = x.length := by
    intro x
    induction x with
    | nil =>
      intro s si rows h
      cases h
      rfl
    | cons b x ih =>
      intro s si rows h
      rw [rows0_cons] at h
      cases e : rtake s b with
      | wrong p => rw [e] at h; cases h
      | ok o s' =>
        rw [e] at h
        dsimp only at h
        generalize hq : rows0 s' x = q at h
        obtain ⟨o1, s1, f⟩ := q
        cases h
        exact congrArg Nat.succ (ih s' _ _ hq)
  have := key _ _ _ _ h
  rw [this, List.length_take]
  omega
end Flow

/-! the least of a list of data; times in order; bytes with their times -/
namespace Flow
open PySem PySem.Spec PyProof.Rows L2
theorem op_catTK {X : Cx} (K : PySem.W.Frag) (h : X.K = K) : OpR X (binaryOp .Add) (rCatT K) := h ▸ op_catT
/-! a test that is one of two -/
def tIfT (t u v : TT) : TT := fun σ H B => t σ H fun c H1 => if c = true then u σ H1 B else v σ H1 B
theorem pt_ifE {X : Cx} {c a b : Expr} {t u v : TT} {pos : Pos} (hc : PT X c t) (ha : PT X a u) (hb : PT X b v) : PT X (.IfExp c a b pos) (tIfT t u v) := by
  refine ⟨fun pins s σ H Q I h => ?_⟩
  refine isTrue_IfExp (thn (hc.run pins s σ H _ I h) fun d s1 ⟨H1, I1, q1⟩ => ?_)
  cases d with
  | true => exact ha.run pins s1 σ H1 Q I1 q1
  | false => exact hb.run pins s1 σ H1 Q I1 q1
theorem x_ifT {t u v : TT} {σ : L2.St} {H : Hp} {B : Bool → Hp → Prop} (q : t σ H fun c H1 => if c = true then u σ H1 B else v σ H1 B) : tIfT t u v σ H B := q
/-! min of data -/
def rMinD (K : PySem.W.Frag) : List V → Hp → VK → Prop := fun vs H Q => ∃ (a : Addr) (xs : List V) (ds : List PyData), vs = [.ref a] ∧ SqL K H a xs ∧ DpAll K H xs ds ∧ PySem.W.AlikeAll ds ∧ PyData.depthAll ds ≤ 60 ∧ 0 < xs.length ∧
  ∀ x, xs[argBest (fun i j => PySem.W.dataLt (ds.getD i .none) (ds.getD j .none)) (xs.length - 1)]? = some x → Q x H
theorem vals_at : ∀ {xs : List V} {us : List Value}, Vals xs us → ∀ (i : Nat) (u : Value), us[i]? = some u → ∃ x, xs[i]? = some x ∧ RelV x u := fun {xs us} r i u h => by
  have hi : i < xs.length := by
    rw [r.length]
    exact (List.getElem?_eq_some_iff.mp h).1
  obtain ⟨u', h1, h2⟩ := r.get (List.getElem?_eq_getElem hi)
  rw [h] at h1
  exact ⟨_, List.getElem?_eq_getElem hi, Option.some.inj h1 ▸ h2⟩
theorem cr_minD {X : Cx} (hc : X.calm = true) (hu : X.A.units + 64 < cLine) : CallR X (.builtin "min") (rMinD X.K) := by
  intro pins s σ H vs us Q I r h
  obtain ⟨a, xs, ds, rfl, hs, hd, hal, hz, hne, q⟩ := h
  obtain ⟨its, rv, hl, _⟩ := I.list hs
  rw [Vals.ref1 r]
  obtain ⟨as, hr⟩ := Dp.readsAll I ds xs its hd rv
  have hn : its.toArray.size = xs.length := by rw [List.size_toArray, rv.length]
  refine PySem.call_min_walkH (PySem.W.iter_listW (A := X.A.in1) (I.ok.hd hc) hl.isList fun s₂ e W st hfp hw hk => ?_)
  refine ⟨_, _, _, _, _, _, _, s.heap, _, rfl, W, st, hfp, by omega, hw, hk, PySem.W.cmpIn_lt (A := X.A.in1) (vs := its.toArray) hr hal ?_, fun v s' hP m => ?_⟩
  · show X.A.units + 1 + _ < _
    omega
  obtain ⟨h', tk, rfl, hk'⟩ := PySem.W.moved_old e rfl m
  rw [List.getElem?_toArray, hn] at hP
  obtain ⟨x, h1, h2⟩ := vals_at rv _ v hP
  exact ⟨x, H, I.kept hk', h2, q x h1⟩
/-! times -/
/-- two times of which the first is ahead at some place -/
def Ahead : Row → Row → Prop
  | x :: a, y :: b => x < y ∨ (x = y ∧ Ahead a b)
  | _, _ => False
theorem Ahead.left : ∀ {a b : Row} (c : Row), Ahead a b → Ahead (a ++ c) b
  | x :: a, y :: b, c, h => by
    rcases h with h | ⟨h1, h2⟩
    · exact Or.inl h
    · exact Or.inr ⟨h1, Ahead.left c h2⟩
  | [], _, _, h => absurd h (by simp [Ahead])
  | _ :: _, [], _, h => absurd h (by simp [Ahead])
theorem Ahead.right : ∀ {a b : Row} (c : Row), Ahead a b → Ahead a (b ++ c)
  | x :: a, y :: b, c, h => by
    rcases h with h | ⟨h1, h2⟩
    · exact Or.inl h
    · exact Or.inr ⟨h1, Ahead.right c h2⟩
  | [], _, _, h => absurd h (by simp [Ahead])
  | _ :: _, [], _, h => absurd h (by simp [Ahead])
theorem Ahead.same : ∀ (a : Row) {x y : Int}, x < y → Ahead (a ++ [x]) (a ++ [y])
  | [], _, _, h => Or.inl h
  | z :: a, _, _, h => Or.inr ⟨rfl, Ahead.same a h⟩
def timD (t : Row) : PyData := .tuple (t.map .int)
theorem alike_ints : ∀ a b : Row, PySem.W.alikeAll (a.map .int) (b.map .int) = true
  | [], _ => by simp [PySem.W.alikeAll]
  | _ :: _, [] => by simp [PySem.W.alikeAll]
  | x :: a, y :: b => by simp [PySem.W.alikeAll, PySem.W.alike, alike_ints a b]
theorem ahead_ne : ∀ {a b : Row}, Ahead a b → PyData.eqvAll (a.map .int) (b.map .int) = false := fun {a b} h => by
  rw [eqv_ints]
  refine decide_eq_false fun e => ?_
  subst e
  have key : ∀ a : Row, ¬ Ahead a a := by
    intro a
    induction a with
    | nil => simp [Ahead]
    | cons x a ih =>
      intro h
      rcases h with h | ⟨_, h⟩
      · omega
      · exact ih h
  exact key a h
theorem ahead_lt : ∀ {a b : Row}, Ahead a b → PyProof.Rows.lexLt itemOrd (PySem.W.keyToksAll (a.map .int)) (PySem.W.keyToksAll (b.map .int)) = true
  | x :: a, y :: b, h => by
    have al : PySem.W.alike (.int x) (.int y) = true := by simp [PySem.W.alike]
    show PyProof.Rows.lexLt itemOrd (PySem.W.keyToksAll (.int x :: a.map .int)) (PySem.W.keyToksAll (.int y :: b.map .int)) = true
    by_cases e : x = y
    · subst e
      rw [PySem.W.dataLt_all_yes al (by simp [PyData.eqv])]
      rcases h with h | ⟨_, h⟩
      · omega
      · exact ahead_lt h
    · rw [PySem.W.dataLt_all_no al (by simp [PyData.eqv, e]), PySem.W.dataLt_int]
      rcases h with h | ⟨h, _⟩
      · exact decide_eq_true h
      · exact absurd h e
  | [], _, h => absurd h (by simp [Ahead])
  | _ :: _, [], h => absurd h (by simp [Ahead])
/-- a fault with its time -/
def tfD (t : Row) (f : PyData) : PyData := .tuple [timD t, f]
theorem tf_lt {t u : Row} {f g : PyData} (h : Ahead t u) : PySem.W.dataLt (tfD t f) (tfD u g) = true := by
  have al : PySem.W.alike (timD t) (timD u) = true := by
    simp only [timD, PySem.W.alike]
    exact alike_ints t u
  unfold tfD
  rw [PySem.W.dataLt_tuple, PySem.W.dataLt_all_no al (by simp only [timD, PyData.eqv]; exact ahead_ne h)]
  show PySem.W.dataLt (.tuple _) (.tuple _) = true
  rw [PySem.W.dataLt_tuple]
  exact ahead_lt h
theorem best_last (bt : Nat → Nat → Bool) : ∀ n : Nat, (∀ i, i < n → bt (i + 1) i = true) → argBest bt n = n
  | 0, _ => rfl
  | n + 1, h => by
    have ih := best_last bt n fun i hi => h i (by omega)
    show (if bt (n + 1) (argBest bt n) = true then n + 1 else argBest bt n) = n + 1
    rw [ih, if_pos (h n (by omega))]
/-! bytes with their times, in the heap -/
def TimAt (H : Hp) (t : Addr) (x : Int × Row) : Prop := ∃ u, H t = some (.tup [.int x.1, .ref u]) ∧ H u = some (.tup (iV x.2))
structure TimIn (H : Hp) (ts : List Addr) (xs : List (Int × Row)) : Prop where
  len : ts.length = xs.length
  at_ : ∀ (i : Nat) (t : Addr) (x : Int × Row), ts[i]? = some t → xs[i]? = some x → TimAt H t x
theorem TimAt.keep {H H' : Hp} {t : Addr} {x : Int × Row} (h : TimAt H t x) (e : ∀ a vs, H a = some (.tup vs) → H' a = some (.tup vs)) : TimAt H' t x := by
  obtain ⟨u, a, b⟩ := h
  exact ⟨u, e _ _ a, e _ _ b⟩
theorem TimIn.keep {H H' : Hp} {ts : List Addr} {xs : List (Int × Row)} (m : TimIn H ts xs) (e : ∀ a vs, H a = some (.tup vs) → H' a = some (.tup vs)) : TimIn H' ts xs := ⟨m.len, fun i t x h1 h2 => (m.at_ i t x h1 h2).keep e⟩
theorem TimIn.nil {H : Hp} : TimIn H [] [] := ⟨rfl, fun i t r h => by simp at h⟩
theorem TimIn.ext {H H' : Hp} {ts : List Addr} {xs : List (Int × Row)} (m : TimIn H ts xs) (e : Ext H H') : TimIn H' ts xs := m.keep fun a vs h => e a _ h (by simp)
theorem tup_put {H : Hp} {f : Addr} {ys : List V} {o : HO} (h : H f = some (.lst ys)) : ∀ a vs, H a = some (.tup vs) → upd H f o a = some (.tup vs) := fun a vs ha => upd_get (fun e => by subst e; rw [h] at ha; cases ha) ha
theorem TimIn.put {H : Hp} {ts : List Addr} {xs : List (Int × Row)} {f : Addr} {ys : List V} {o : HO} (m : TimIn H ts xs) (h : H f = some (.lst ys)) : TimIn (upd H f o) ts xs := m.keep (tup_put h)
theorem TimIn.app {H : Hp} {ts us : List Addr} {xs ys : List (Int × Row)} (m : TimIn H ts xs) (n : TimIn H us ys) : TimIn H (ts ++ us) (xs ++ ys) := by
  refine ⟨by rw [List.length_append, List.length_append, m.len, n.len], fun i t x h1 h2 => ?_⟩
  by_cases hi : i < ts.length
  · rw [List.getElem?_append_left hi] at h1
    rw [List.getElem?_append_left (by rw [← m.len]; exact hi)] at h2
    exact m.at_ i t x h1 h2
  · rw [List.getElem?_append_right (by omega)] at h1
    rw [List.getElem?_append_right (by rw [← m.len]; omega), ← m.len] at h2
    exact n.at_ _ t x h1 h2
theorem TimIn.snoc {H : Hp} {ts : List Addr} {xs : List (Int × Row)} {t : Addr} {x : Int × Row} (m : TimIn H ts xs) (h : TimAt H t x) : TimIn H (ts ++ [t]) (xs ++ [x]) := by
  refine m.app ⟨rfl, fun i u y h1 h2 => ?_⟩
  cases i with
  | zero =>
    cases h1
    cases h2
    exact h
  | succ i => simp at h1
theorem TimIn.get {H : Hp} {ts : List Addr} {xs : List (Int × Row)} (m : TimIn H ts xs) {i : Nat} {x : Int × Row} (h : xs[i]? = some x) : ∃ t, ts[i]? = some t ∧ TimAt H t x := by
  have hi : i < ts.length := by
    rw [m.len]
    exact (List.getElem?_eq_some_iff.mp h).1
  exact ⟨_, List.getElem?_eq_getElem hi, m.at_ i _ _ (List.getElem?_eq_getElem hi) h⟩
/-! times alone -/
structure TmsIn (H : Hp) (us : List Addr) (tms : List Row) : Prop where
  len : us.length = tms.length
  at_ : ∀ (i : Nat) (u : Addr) (x : Row), us[i]? = some u → tms[i]? = some x → H u = some (.tup (iV x))
theorem TmsIn.keep {H H' : Hp} {ts : List Addr} {xs : List Row} (m : TmsIn H ts xs) (e : ∀ a vs, H a = some (.tup vs) → H' a = some (.tup vs)) : TmsIn H' ts xs := ⟨m.len, fun i t x h1 h2 => e _ _ (m.at_ i t x h1 h2)⟩
theorem TmsIn.ext {H H' : Hp} {ts : List Addr} {xs : List Row} (m : TmsIn H ts xs) (e : Ext H H') : TmsIn H' ts xs := m.keep fun a vs h => e a _ h (by simp)
theorem TmsIn.put {H : Hp} {ts : List Addr} {xs : List Row} {f : Addr} {ys : List V} {o : HO} (m : TmsIn H ts xs) (h : H f = some (.lst ys)) : TmsIn (upd H f o) ts xs := m.keep (tup_put h)
theorem TmsIn.get {H : Hp} {ts : List Addr} {xs : List Row} (m : TmsIn H ts xs) {i : Nat} {x : Row} (h : xs[i]? = some x) : ∃ t, ts[i]? = some t ∧ H t = some (.tup (iV x)) := by
  have hi : i < ts.length := by
    rw [m.len]
    exact (List.getElem?_eq_some_iff.mp h).1
  exact ⟨_, List.getElem?_eq_getElem hi, m.at_ i _ _ (List.getElem?_eq_getElem hi) h⟩
theorem TmsIn.snoc {H : Hp} {ts : List Addr} {xs : List Row} {t : Addr} {x : Row} (m : TmsIn H ts xs) (h : H t = some (.tup (iV x))) : TmsIn H (ts ++ [t]) (xs ++ [x]) := by
  refine ⟨by rw [List.length_append, List.length_append, m.len]; rfl, fun i u y h1 h2 => ?_⟩
  by_cases hi : i < ts.length
  · rw [List.getElem?_append_left hi] at h1
    rw [List.getElem?_append_left (by rw [← m.len]; exact hi)] at h2
    exact m.at_ i u y h1 h2
  · rw [List.getElem?_append_right (by omega)] at h1
    rw [List.getElem?_append_right (by rw [← m.len]; omega), ← m.len] at h2
    cases hd : i - ts.length with
    | zero =>
      rw [hd] at h1 h2
      cases h1
      cases h2
      exact h
    | succ j =>
      rw [hd] at h1
      cases h1
section
variable {K : PySem.W.Frag} {σ : L2.St} {H : Hp} {te : TE} {Q : VK} {a : Addr} {n : Int} {j : Nat} {xs : List V}
/-- a comprehension of bytes with their times, over a range -/
theorem x_rLcRM {ws : List Nat} {k : Nat} (f : Nat → Int × Row) (hn : n = (k : Int)) (hz : k ≤ 16777216) (hw : ∀ x, wipe ((wipe σ ws).set j (some x)) ws = wipe σ ws)
    (he : ∀ (i : Nat) H1, i < k → Ext H H1 → ∀ Q' : VK, (∀ t H2, Ext H1 H2 → TimAt H2 t (f i) → Q' (.ref t) H2) → te ((wipe σ ws).set j (some (.int (i : Int)))) H1 Q')
    (q : ∀ p ts H1, H p = none → Ext H H1 → H1 p = some (.lst (ts.map V.ref)) → TimIn H1 ts ((List.range k).map f) → Q (.ref p) H1) : rLcR (gName j) tYes te ws σ [.int n] H Q := by
  subst hn
  refine ⟨(k : Int), rfl, by omega, by omega, ?_⟩
  have ek : (k : Int).toNat = k := Int.toNat_natCast k
  rw [ek]
  refine fun Dl hD => lc_range (lo := 0) (n := k) (fun i H' => ∃ ts : List Addr, Ext H H' ∧ H' Dl = some (.lst (ts.map V.ref)) ∧ TimIn H' ts ((List.range i).map f)) ⟨[], Only'.put0 Only'.refl hD, upd_same, TimIn.nil⟩ (fun i H' hi p => ?_) (fun H' ⟨ts, p1, p2, p3⟩ => q Dl ts H' hD p1 p2 p3)
  rw [Int.zero_add]
  refine ⟨hw _, ?_⟩
  obtain ⟨ts, p1, p2, p3⟩ := p
  unfold tYes
  dsimp only
  rw [if_pos rfl]
  refine he i H' hi p1 _ fun t H2 e2 ht => ⟨ts.map V.ref, e2 Dl _ p2 (by simp), by rw [List.length_map, p3.len, List.length_map, List.length_range, sizeLine_eq]; omega, ts ++ [t], ?_, ?_, ?_⟩
  · exact (p1.trans e2).put0 hD
  · rw [upd_same, List.map_append]
    rfl
  · rw [List.range_succ, List.map_append]
    exact ((p3.ext e2).snoc ht).put (e2 Dl _ p2 (by simp))
end
end Flow

/-! plain: own reading of checks by blocks, of signs by bits -/
namespace Flow
/-! checks: the bytes of the first m blocks -/
def blk (r : Row) (n k : Nat) : Row := (r.drop ((n + 2) * k)).take n
def blks (r : Row) (n m : Nat) : Row := ((List.range m).map (blk r n)).flatten
theorem blks_succ (r : Row) (n m : Nat) : blks r n (m + 1) = blks r n m ++ blk r n m := by
  unfold blks
  rw [List.range_succ, List.map_append, List.flatten_append]
  simp
def dataOf (r : Row) (n : Nat) : Row := ((List.range r.length).filter fun k : Nat => decide (k % (n + 2) < n)).map fun k : Nat => gI r (k : Int)
theorem filter_lt (n : Nat) : (List.range (n + 2)).filter (fun k => decide (k < n)) = List.range n := by
  rw [List.range_add, List.filter_append]
  have e1 : (List.range n).filter (fun k => decide (k < n)) = List.range n := by
    rw [List.filter_eq_self]
    intro k hk
    exact decide_eq_true (List.mem_range.mp hk)
  have e2 : ((List.range 2).map (n + ·)).filter (fun k => decide (k < n)) = [] := by
    rw [List.filter_eq_nil_iff]
    intro k hk
    obtain ⟨j, _, rfl⟩ := List.mem_map.mp hk
    simp
  rw [e1, e2, List.append_nil]
theorem data_pre (r : Row) (n : Nat) : ∀ m, (n + 2) * m ≤ r.length → ((List.range ((n + 2) * m)).filter fun k : Nat => decide (k % (n + 2) < n)).map (fun k : Nat => gI r (k : Int)) = blks r n m
  | 0, _ => rfl
  | m + 1, h => by
    have hm : (n + 2) * (m + 1) = (n + 2) * m + (n + 2) := by rw [Nat.mul_add, Nat.mul_one]
    rw [hm] at h
    rw [hm, List.range_add, List.filter_append, List.map_append, data_pre r n m (by omega), blks_succ, List.filter_map, List.map_map]
    congr 1
    have e1 : (List.range (n + 2)).filter ((fun k : Nat => decide (k % (n + 2) < n)) ∘ fun x => (n + 2) * m + x) = List.range n := by
      rw [← filter_lt n]
      refine List.filter_congr fun j hj => ?_
      have hj2 := List.mem_range.mp hj
      show decide (((n + 2) * m + j) % (n + 2) < n) = _
      rw [Nat.mul_add_mod, Nat.mod_eq_of_lt hj2]
    rw [e1]
    unfold blk
    refine List.ext_getElem? fun i => ?_
    rw [List.getElem?_map, List.getElem?_take]
    by_cases hi : i < n
    · rw [List.getElem?_range hi, if_pos hi, List.getElem?_drop]
      show some (gI r (((n + 2) * m + i : Nat) : Int)) = _
      rw [List.getElem?_eq_getElem (show (n + 2) * m + i < r.length by omega)]
      rw [gI_nat (List.getElem?_eq_getElem (show (n + 2) * m + i < r.length by omega))]
    · rw [List.getElem?_eq_none (by rw [List.length_range]; omega), if_neg hi]
      rfl
theorem blk_len {r : Row} {n k : Nat} (h : (n + 2) * (k + 1) ≤ r.length) : (blk r n k).length = n := by
  unfold blk
  rw [Nat.mul_add, Nat.mul_one] at h
  rw [List.length_take, List.length_drop]
  omega
theorem blks_len {r : Row} {n : Nat} : ∀ m, (n + 2) * m ≤ r.length → (blks r n m).length = n * m
  | 0, _ => rfl
  | m + 1, h => by
    have hm : (n + 2) * (m + 1) = (n + 2) * m + (n + 2) := by rw [Nat.mul_add, Nat.mul_one]
    rw [blks_succ, List.length_append, blks_len m (by omega), blk_len h, Nat.mul_add, Nat.mul_one]
theorem data_take (r : Row) (n m : Nat) (h : (n + 2) * m ≤ r.length) : (dataOf r n).take (n * m) = blks r n m ∧ n * m ≤ (dataOf r n).length := by
  have e : dataOf r n = blks r n m ++ ((((List.range (r.length - (n + 2) * m)).map ((n + 2) * m + ·)).filter fun k : Nat => decide (k % (n + 2) < n)).map fun k : Nat => gI r (k : Int)) := by
    unfold dataOf
    have e1 : r.length = (n + 2) * m + (r.length - (n + 2) * m) := by omega
    conv => lhs; rw [e1]
    rw [List.range_add, List.filter_append, List.map_append, data_pre r n m h]
  have hl := blks_len m h
  rw [e]
  refine ⟨by rw [← hl, List.take_left], ?_⟩
  rw [List.length_append, hl]
  omega
theorem data_len (r : Row) (n : Nat) : (dataOf r n).length ≤ r.length := by
  unfold dataOf
  rw [List.length_map]
  refine Nat.le_trans (List.length_filter_le _ _) ?_
  rw [List.length_range]
  exact Nat.le_refl _
/-- what is held behind i bytes -/
def heldAt (r : Row) (n i : Nat) : Row := (r.take i).drop ((n + 2) * (i / (n + 2)))
def ckAt (r : Row) (n i : Nat) : Int := checkAll 0 (blks r n (i / (n + 2)))
theorem held_len {r : Row} {n i : Nat} (h : i ≤ r.length) : (heldAt r n i).length = i % (n + 2) := by
  unfold heldAt
  rw [List.length_drop, List.length_take, Nat.min_eq_left h]
  have := Nat.div_add_mod i (n + 2)
  omega
theorem held_snoc {r : Row} {n i : Nat} (h : i < r.length) : heldAt r n i ++ [gI r (i : Int)] = (r.take (i + 1)).drop ((n + 2) * (i / (n + 2))) := by
  unfold heldAt
  have hd : (n + 2) * (i / (n + 2)) ≤ i := Nat.mul_div_le i (n + 2)
  rw [take_snoc h, List.drop_append_of_le_length (by rw [List.length_take]; omega)]
theorem checks_step {r : Row} {n i : Nat} (h : i < r.length) (hn : 1 ≤ n) :
    (i % (n + 2) + 1 = n + 2 ∧ rtake (.checks (n : Int) (i : Int) (ckAt r n i) (heldAt r n i)) (gI r (i : Int)) =
      (if (r.drop (i - 1)).take 2 = checkBytes (checkAll 0 ((dataOf r n).take (n * ((i + 1) / (n + 2))))) then .ok ((r.drop (i - n - 1)).take n) (.checks (n : Int) ((i + 1 : Nat) : Int) (ckAt r n (i + 1)) (heldAt r n (i + 1))) else .wrong (i : Int)) ∧ n * ((i + 1) / (n + 2)) ≤ (dataOf r n).length) ∨
    (i % (n + 2) + 1 < n + 2 ∧ rtake (.checks (n : Int) (i : Int) (ckAt r n i) (heldAt r n i)) (gI r (i : Int)) = .ok [] (.checks (n : Int) ((i + 1 : Nat) : Int) (ckAt r n (i + 1)) (heldAt r n (i + 1)))) := by
  have ht : rtake (.checks (n : Int) (i : Int) (ckAt r n i) (heldAt r n i)) (gI r (i : Int)) = (if ((heldAt r n i ++ [gI r (i : Int)]).length : Int) = (n : Int) + 2 then
      if blockTail (heldAt r n i ++ [gI r (i : Int)]) = checkBytes (checkAll (ckAt r n i) (blockRow (heldAt r n i ++ [gI r (i : Int)]))) then .ok (blockRow (heldAt r n i ++ [gI r (i : Int)])) (.checks (n : Int) ((i : Int) + 1) (checkAll (ckAt r n i) (blockRow (heldAt r n i ++ [gI r (i : Int)]))) [])
      else .wrong (i : Int)
    else .ok [] (.checks (n : Int) ((i : Int) + 1) (ckAt r n i) (heldAt r n i ++ [gI r (i : Int)]))) := rfl
  have hl : (heldAt r n i ++ [gI r (i : Int)]).length = i % (n + 2) + 1 := by
    rw [List.length_append, held_len (by omega)]
    rfl
  have hq := Nat.div_add_mod i (n + 2)
  rcases div_step i (n + 2) (by omega) with ⟨c1, c2, c3⟩ | ⟨c1, c2, c3⟩
  · left
    have hw : (n + 2) * (i / (n + 2) + 1) = i + 1 := by rw [Nat.mul_add, Nat.mul_one]; omega
    have hb : blockRow (heldAt r n i ++ [gI r (i : Int)]) = blk r n (i / (n + 2)) := by
      unfold blockRow
      rw [hl, c1, held_snoc h]
      unfold blk
      rw [List.drop_take, List.take_take]
      congr 1
      omega
    have htl : blockTail (heldAt r n i ++ [gI r (i : Int)]) = (r.drop (i - 1)).take 2 := by
      unfold blockTail
      rw [hl, c1, held_snoc h, List.drop_drop, List.drop_take]
      have e1 : (n + 2) * (i / (n + 2)) + (n + 2 - 2) = i - 1 := by omega
      rw [e1]
      congr 1
      omega
    obtain ⟨d1, d2⟩ := data_take r n (i / (n + 2) + 1) (by omega)
    have hck : checkAll (ckAt r n i) (blk r n (i / (n + 2))) = checkAll 0 (blks r n (i / (n + 2) + 1)) := by
      unfold ckAt
      rw [blks_succ, checkAll_app]
    refine ⟨c1, ?_, by rw [c3]; exact d2⟩
    rw [ht, if_pos (by rw [hl]; omega), hb, htl, hck, c3, d1]
    have e2 : heldAt r n (i + 1) = [] := by
      unfold heldAt
      rw [c3, hw, List.drop_eq_nil_of_le (by rw [List.length_take]; omega)]
    have e3 : ckAt r n (i + 1) = checkAll 0 (blks r n (i / (n + 2) + 1)) := by
      unfold ckAt
      rw [c3]
    have e4 : blk r n (i / (n + 2)) = (r.drop (i - n - 1)).take n := by
      unfold blk
      congr 2
      omega
    rw [e2, e3, e4]
    rfl
  · right
    refine ⟨c1, ?_⟩
    rw [ht, if_neg (by rw [hl]; omega), held_snoc h]
    have e2 : heldAt r n (i + 1) = (r.take (i + 1)).drop ((n + 2) * (i / (n + 2))) := by
      unfold heldAt
      rw [c3]
    have e3 : ckAt r n (i + 1) = ckAt r n i := by
      unfold ckAt
      rw [c3]
    rw [e2, e3]
    rfl
theorem checks_rend (r : Row) (n : Nat) (hn : 1 ≤ n) : rend (.checks (n : Int) (r.length : Int) (ckAt r n r.length) (heldAt r n r.length)) =
    (if r.length % (n + 2) < 2 then .cut else if r.drop (r.length - 2) = checkBytes (checkAll 0 ((dataOf r n).take (n * (r.length / (n + 2))) ++ (r.drop (r.length - r.length % (n + 2))).take (r.length % (n + 2) - 2))) then .ok ((r.drop (r.length - r.length % (n + 2))).take (r.length % (n + 2) - 2)) else .wrong ((r.length : Int) - 1)) := by
  have ht : rend (.checks (n : Int) (r.length : Int) (ckAt r n r.length) (heldAt r n r.length)) = (if ((heldAt r n r.length).length : Int) < 2 then .cut
      else if blockTail (heldAt r n r.length) = checkBytes (checkAll (ckAt r n r.length) (blockRow (heldAt r n r.length))) then .ok (blockRow (heldAt r n r.length)) else .wrong ((r.length : Int) - 1)) := rfl
  have hl := held_len (r := r) (n := n) (Nat.le_refl _)
  have hq := Nat.div_add_mod r.length (n + 2)
  rw [ht, hl]
  by_cases c : r.length % (n + 2) < 2
  · rw [if_pos c, if_pos (by omega)]
  · rw [if_neg c, if_neg (by omega)]
    have hh : heldAt r n r.length = r.drop (r.length - r.length % (n + 2)) := by
      unfold heldAt
      rw [List.take_length]
      congr 1
      omega
    have hb : blockRow (heldAt r n r.length) = (r.drop (r.length - r.length % (n + 2))).take (r.length % (n + 2) - 2) := by
      unfold blockRow
      rw [hl, hh]
    have htl : blockTail (heldAt r n r.length) = r.drop (r.length - 2) := by
      unfold blockTail
      rw [hl, hh, List.drop_drop]
      congr 1
      omega
    have hm := Nat.mul_div_le r.length (n + 2)
    obtain ⟨d1, _⟩ := data_take r n (r.length / (n + 2)) hm
    have hck : checkAll (ckAt r n r.length) (blockRow (heldAt r n r.length)) = checkAll 0 (blks r n (r.length / (n + 2)) ++ blockRow (heldAt r n r.length)) := by
      unfold ckAt
      rw [checkAll_app]
    rw [hck, htl, hb, d1]
/-! signs: bits -/
def val : Row → Int
  | [] => 0
  | b :: r => b * 2 ^ r.length + val r
def Bits (r : Row) : Prop := ∀ b, b ∈ r → b = 0 ∨ b = 1
theorem val_app : ∀ a b : Row, val (a ++ b) = val a * 2 ^ b.length + val b
  | [], b => by
    show val b = 0 * 2 ^ b.length + val b
    omega
  | x :: a, b => by
    show x * 2 ^ (a ++ b).length + val (a ++ b) = (x * 2 ^ a.length + val a) * 2 ^ b.length + val b
    rw [val_app a b, List.length_append, Int.add_mul, Int.pow_add, Int.mul_assoc, Int.add_assoc]
theorem val_in : ∀ {a : Row}, Bits a → 0 ≤ val a ∧ val a < 2 ^ a.length
  | [], _ => by
    show (0 : Int) ≤ 0 ∧ (0 : Int) < 1
    omega
  | x :: a, h => by
    obtain ⟨h0, h1⟩ := val_in (a := a) fun b hb => h b (List.mem_cons_of_mem _ hb)
    have e : (2 : Int) ^ (x :: a).length = 2 ^ a.length * 2 := by rw [List.length_cons, Int.pow_succ]
    show 0 ≤ x * 2 ^ a.length + val a ∧ x * 2 ^ a.length + val a < _
    rw [e]
    rcases h x (List.mem_cons_self ..) with z | z
    · rw [z]
      omega
    · rw [z]
      omega
theorem sum_pos : ∀ {a : Row}, Bits a → 0 ≤ a.sum ∧ (0 < a.sum ↔ 0 < val a)
  | [], _ => ⟨by decide, by decide⟩
  | x :: a, h => by
    have hb : Bits a := fun b hb => h b (List.mem_cons_of_mem _ hb)
    obtain ⟨h0, h1⟩ := sum_pos hb
    obtain ⟨v0, v1⟩ := val_in hb
    have e : (x :: a).sum = x + a.sum := List.sum_cons
    have e2 : val (x :: a) = x * 2 ^ a.length + val a := rfl
    rw [e, e2]
    rcases h x (List.mem_cons_self ..) with z | z
    · rw [z]
      refine ⟨by omega, ?_⟩
      rw [Int.zero_mul, Int.zero_add, Int.zero_add]
      exact h1
    · rw [z]
      refine ⟨by omega, fun _ => by omega, fun _ => by omega⟩
theorem bits_app {a b : Row} (ha : Bits a) (hb : Bits b) : Bits (a ++ b) := fun x hx => by
  rcases List.mem_append.mp hx with z | z
  · exact ha x z
  · exact hb x z
theorem bits1_bits (n : Nat) (x : Int) : Bits (bits1 n x) := fun b hb => by
  obtain ⟨k, _, rfl⟩ := List.mem_map.mp hb
  omega
theorem val6 {x : Int} (h0 : 0 ≤ x) (h : x < 64) : val (bits1 6 x) = x := by
  have e : bits1 6 x = [x / 32 % 2, x / 16 % 2, x / 8 % 2, x / 4 % 2, x / 2 % 2, x / 1 % 2] := rfl
  rw [e]
  show x / 32 % 2 * 2 ^ 5 + (x / 16 % 2 * 2 ^ 4 + (x / 8 % 2 * 2 ^ 3 + (x / 4 % 2 * 2 ^ 2 + (x / 2 % 2 * 2 ^ 1 + (x / 1 % 2 * 2 ^ 0 + 0))))) = x
  omega
theorem grp8 {g : Row} (h : g.length = 8) : grpOf 8 g = val g := by
  match g, h with
  | [a, b, c, d, e, f, i, j], _ =>
    show a * 128 + (b * 64 + (c * 32 + (d * 16 + (e * 8 + (f * 4 + (i * 2 + (j * 1 + 0))))))) = a * 2 ^ 7 + (b * 2 ^ 6 + (c * 2 ^ 5 + (d * 2 ^ 4 + (e * 2 ^ 3 + (f * 2 ^ 2 + (i * 2 ^ 1 + (j * 2 ^ 0 + 0)))))))
    omega
theorem groups_short {n : Nat} {X : Row} (h : X.length < n) : groupsOf n X = [] := by
  unfold groupsOf
  rw [Nat.div_eq_of_lt h]
  rfl
theorem groups_app {n : Nat} (hn : 1 ≤ n) : ∀ (k : Nat) (A X : Row), A.length = n * k → groupsOf n (A ++ X) = groupsOf n A ++ groupsOf n X
  | 0, A, X, h => by
    have : A = [] := List.eq_nil_of_length_eq_zero (by rw [h]; rfl)
    subst this
    rw [groups_nil]
    rfl
  | k + 1, A, X, h => by
    have hl : n ≤ A.length := by rw [h, Nat.mul_add]; omega
    have e : A = A.take n ++ A.drop n := (List.take_append_drop n A).symm
    have h1 : (A.take n).length = n := by rw [List.length_take]; omega
    have h2 : (A.drop n).length = n * k := by rw [List.length_drop, h, Nat.mul_add]; omega
    rw [e, List.append_assoc, groups_cons hn _ _ h1, groups_cons hn _ _ h1, groups_app hn k _ X h2]
    rfl
theorem groups_len (n : Nat) (A : Row) : (groupsOf n A).length = A.length / n := by
  unfold groupsOf
  rw [List.length_map, List.length_range]
/-- the bits of the signs so far: whole bytes, and those that are left -/
structure SgAt (B : Row) (many value : Int) : Prop where
  ex : ∃ (d rem : Row) (k : Nat), B = d ++ rem ∧ d.length = 8 * k ∧ (rem.length : Int) = many ∧ val rem = value ∧ Bits rem
  four : many = 0 ∨ many = 2 ∨ many = 4 ∨ many = 6
theorem sg_start : SgAt [] 0 0 := ⟨⟨[], [], 0, rfl, rfl, rfl, rfl, fun _ h => nomatch h⟩, Or.inl rfl⟩
theorem pow_of {k : Nat} (h : k < 8) : pow2 (k : Int) = 2 ^ k := by
  match k, h with
  | 0, _ => rfl
  | 1, _ => rfl
  | 2, _ => rfl
  | 3, _ => rfl
  | 4, _ => rfl
  | 5, _ => rfl
  | 6, _ => rfl
  | 7, _ => rfl
  | k + 8, h => omega
theorem sg_none {B : Row} {value x : Int} (h : SgAt B 0 value) (h0 : 0 ≤ x) (h1 : x < 64) : SgAt (B ++ bits1 6 x) 6 (value * 64 + x) ∧ (groupsOf 8 (B ++ bits1 6 x)).drop (B.length / 8) = [] := by
  obtain ⟨⟨d, rem, k, rfl, hd, hr, hv, hb⟩, _⟩ := h
  have : rem = [] := List.eq_nil_of_length_eq_zero (by omega)
  subst this
  rw [List.append_nil]
  have hv0 : value = 0 := hv.symm
  refine ⟨⟨⟨d, bits1 6 x, k, rfl, hd, by rw [bits1_len]; rfl, by rw [val6 h0 h1, hv0]; omega, bits1_bits 6 x⟩, Or.inr (Or.inr (Or.inr rfl))⟩, ?_⟩
  rw [groups_app (by decide) k _ _ hd, groups_short (n := 8) (X := bits1 6 x) (by rw [bits1_len]; decide), List.append_nil]
  exact List.drop_eq_nil_of_le (by rw [groups_len]; exact Nat.le_refl _)
theorem sg_some {B : Row} {many value x : Int} (h : SgAt B many value) (hm : ¬ many = 0) (h0 : 0 ≤ x) (h1 : x < 64) : SgAt (B ++ bits1 6 x) (many - 2) ((value * 64 + x) % pow2 (many - 2)) ∧ (groupsOf 8 (B ++ bits1 6 x)).drop (B.length / 8) = [(value * 64 + x) / pow2 (many - 2)] := by
  obtain ⟨⟨d, rem, k, rfl, hd, hr, hv, hb⟩, hf⟩ := h
  have hl : (rem ++ bits1 6 x).length = rem.length + 6 := by rw [List.length_append, bits1_len]
  have hv2 : val (rem ++ bits1 6 x) = value * 64 + x := by
    rw [val_app, bits1_len, val6 h0 h1, hv]
    rfl
  have hbits := bits_app hb (bits1_bits 6 x)
  rw [List.append_assoc]
  obtain ⟨R, hRe⟩ : ∃ R, R = rem ++ bits1 6 x := ⟨_, rfl⟩
  rw [← hRe] at hl hv2 hbits ⊢
  have e : R = R.take 8 ++ R.drop 8 := (List.take_append_drop 8 R).symm
  have l1 : (R.take 8).length = 8 := by rw [List.length_take]; omega
  have l2 : (R.drop 8).length = rem.length - 2 := by rw [List.length_drop]; omega
  have b2 : Bits (R.drop 8) := fun b hb2 => hbits b (List.mem_of_mem_drop hb2)
  obtain ⟨v0, v1⟩ := val_in b2
  have hv3 : val (R.take 8) * 2 ^ (R.drop 8).length + val (R.drop 8) = value * 64 + x := by
    rw [← val_app, ← e, hv2]
  have hp : pow2 (many - 2) = 2 ^ (R.drop 8).length := by
    rw [l2, ← pow_of (by omega)]
    congr 1
    omega
  have hmod : (value * 64 + x) % pow2 (many - 2) = val (R.drop 8) := by
    rw [hp, ← hv3, Int.add_comm, Int.add_mul_emod_self_right]
    exact Int.emod_eq_of_lt v0 v1
  have hdiv : (value * 64 + x) / pow2 (many - 2) = val (R.take 8) := by
    rw [hp, ← hv3, Int.add_comm, Int.add_mul_ediv_right _ _ (by omega), Int.ediv_eq_zero_of_lt v0 v1, Int.zero_add]
  rw [hmod, hdiv]
  refine ⟨⟨⟨d ++ R.take 8, R.drop 8, k + 1, by rw [List.append_assoc, ← e], by rw [List.length_append, l1, hd]; omega, by rw [l2]; omega, rfl, b2⟩, by omega⟩, ?_⟩
  rw [groups_app (by decide) k _ _ hd]
  have e2 : groupsOf 8 R = [val (R.take 8)] := by
    have e3 := groups_cons (n := 8) (by decide) (R.take 8) (R.drop 8) l1
    rw [← e, groups_short (n := 8) (X := R.drop 8) (by omega), grp8 l1] at e3
    exact e3
  have e4 : (d ++ rem).length / 8 = (groupsOf 8 d).length := by
    rw [groups_len, List.length_append]
    omega
  rw [e2, e4, List.drop_left]
theorem sg_end {B : Row} {many value : Int} (h : SgAt B many value) : (B.drop (8 * (B.length / 8))).sum > 0 ↔ value > 0 := by
  obtain ⟨⟨d, rem, k, rfl, hd, hr, hv, hb⟩, hf⟩ := h
  have e : 8 * ((d ++ rem).length / 8) = d.length := by
    rw [List.length_append]
    omega
  rw [e, List.drop_left, ← hv]
  exact (sum_pos hb).2
end Flow

/-! plain: streams in pieces; sizes of written streams -/
namespace Flow
theorem wthru_app : ∀ (ss : List WSt) (x y : Row), wthru ss (x ++ y) = ((wthru ss x).1 ++ (wthru (wthru ss x).2 y).1, (wthru (wthru ss x).2 y).2)
  | [], x, y => rfl
  | s :: ss, x, y => by
    show ((wthru ss (wfeed s (x ++ y)).1).1, (wfeed s (x ++ y)).2 :: (wthru ss (wfeed s (x ++ y)).1).2) = _
    rw [wfeed_app]
    dsimp only
    rw [wthru_app ss]
    rfl
theorem wfits_len : ∀ {ss : List WSt} {r : Row}, WFits ss r → r.length ≤ 16777216
  | [], _, h => h
  | _ :: _, _, h => h.1
theorem wfits_app : ∀ {ss : List WSt} {x y : Row}, WFits ss (x ++ y) → WFits ss x ∧ WFits (wthru ss x).2 y
  | [], x, y, h => by
    have h' : (x ++ y).length ≤ 16777216 := h
    rw [List.length_append] at h'
    exact ⟨show x.length ≤ _ by omega, show y.length ≤ _ by omega⟩
  | s :: ss, x, y, h => by
    obtain ⟨h1, h2⟩ := h
    rw [List.length_append] at h1
    rw [wfeed_app] at h2
    obtain ⟨i1, i2⟩ := wfits_app h2
    exact ⟨⟨by omega, i1⟩, ⟨by omega, i2⟩⟩
theorem stream_short {lays : List Lay} {row : Row} (h : ∀ ly, ly ∈ lays → ly.Ok) (h8 : lays.length ≤ 8) (hb : Bys row) (hr : row.length ≤ 400) : (written lays row).length ≤ 8000000 := by
  have h1 : bnd lays.length row.length ≤ 4000000 := by
    refine Nat.le_trans (bnd_mono _ hr) (Nat.le_trans (bnd_more 400 h8) ?_)
    decide
  have h2 : ebd lays.length ≤ 3000000 := by
    refine Nat.le_trans (ebd_mono h8) ?_
    decide
  have := written_short h h8 hb h1
  omega
theorem written_split (lays : List Lay) (row : Row) : written lays row = (wthru (lays.map newW) row).1 ++ wendAll lays.length (wthru (lays.map newW) row).2 := rfl
/-- reading a stream that is read without a fault -/
theorem readAll_ok {lays : List Lay} {r row : Row} (h : readAll lays r = (row, none)) : ∃ o ss e, rseq (rone lays.length) (lays.reverse.map newR) r = (o, ss, none) ∧ ss.length = lays.length ∧ rendAll lays.length ss = (e, none) ∧ row = o ++ e := by
  rw [readAll_rall] at h
  unfold rall at h
  have hl := rseq_len lays.length r (lays.reverse.map newR)
  rw [List.length_map, List.length_reverse] at hl
  generalize rseq (rone lays.length) (lays.reverse.map newR) r = q at *
  obtain ⟨o, ss, f⟩ := q
  cases f with
  | some x => cases h
  | none =>
    dsimp only at h hl
    have h1 := congrArg Prod.fst h
    have h2 := congrArg Prod.snd h
    dsimp only at h1 h2
    exact ⟨o, ss, (rendAll lays.length ss).1, rfl, hl, by rw [← h2], h1.symm⟩
/-- what is told of a beginning is a beginning -/
theorem again_begin {lays : List Lay} {row x y : Row} (oks : ∀ ly, ly ∈ lays → ly.Ok) (hb : Bys row) (h : written lays row = x ++ y) : ∃ o ss o2 ss2 e, rseq (rone lays.length) (lays.reverse.map newR) x = (o, ss, none) ∧ rseq (rone lays.length) ss y = (o2, ss2, none) ∧ ss2.length = lays.length ∧ rendAll lays.length ss2 = (e, none) ∧ row = o ++ o2 ++ e := by
  obtain ⟨o, ss, e, h1, h2, h3, h4⟩ := readAll_ok (again lays oks row hb)
  rw [h] at h1
  obtain ⟨o1, ss1, o2, g1, g2, g3⟩ := begin_ok _ h1
  exact ⟨o1, ss1, o2, ss, e, g1, g2, h2, h3, by rw [h4, g3]⟩
end Flow

/-! plain: reading layer by layer, each byte with its time: the last fault put in is the first of all -/
namespace Flow
/-- one layer more, from the outermost on -/
def lstep (j : Nat) (ly : Lay) : Row × Option Fault → Row × Option Fault
  | (o, none) => ((rfin (newR ly) o).1, (rfin (newR ly) o).2.map (LF.at_ (j : Int)))
  | (o, some x) => ((rfeed (newR ly) o).1, some (((rfeed (newR ly) o).2.2.map (Fault.wrong (j : Int))).getD x))
def down : List Lay → Row × Option Fault → Row × Option Fault
  | [], x => x
  | ly :: L, x => down L (lstep L.length ly x)
theorem down_some : ∀ (L : List Lay) (r : Row) (x : Fault), down L (r, some x) = ((rseq (rone L.length) (L.map newR) r).1, some ((rseq (rone L.length) (L.map newR) r).2.2.getD x))
  | [], r, x => by
    have h : ∀ r : Row, rseq (rone 0) [] r = (r, [], none) := by
      intro r
      induction r with
      | nil => rfl
      | cons b r ih =>
        rw [rseq_cons]
        show ([b] ++ (rseq (rone 0) [] r).1, (rseq (rone 0) [] r).2) = _
        rw [ih]
        rfl
    show (r, some x) = ((rseq (rone 0) [] r).1, some ((rseq (rone 0) [] r).2.2.getD x))
    rw [h]
    rfl
  | ly :: L, r, x => by
    obtain ⟨h1, h2, _⟩ := rseq_layer L.length r (newR ly) (L.map newR)
    rw [L.length_map newR |>.symm] at h1 h2
    show down L (lstep L.length ly (r, some x)) = ((rseq (rone (L.length + 1)) (newR ly :: L.map newR) r).1, some ((rseq (rone (L.length + 1)) (newR ly :: L.map newR) r).2.2.getD x))
    rw [List.length_map] at h1 h2
    rw [h1, h2]
    unfold lstep
    rw [down_some L]
    generalize rseq (rone L.length) (L.map newR) (rfeed (newR ly) r).1 = g
    obtain ⟨g1, g2, g3⟩ := g
    cases g3 <;> rfl
theorem down_none : ∀ (L : List Lay) (r : Row), down L (r, none) = readAll L.reverse r
  | [], r => (readAll_nil r).symm
  | ly :: L, r => by
    rw [List.reverse_cons, readAll_snoc, List.length_reverse, List.reverse_reverse]
    show down L ((rfin (newR ly) r).1, (rfin (newR ly) r).2.map (LF.at_ (L.length : Int))) = _
    generalize rfin (newR ly) r = F
    obtain ⟨o, f⟩ := F
    cases f with
    | none => exact down_none L o
    | some f =>
      show down L (o, some (f.at_ (L.length : Int))) = _
      rw [down_some L]
      dsimp only
      generalize rseq (rone L.length) (L.map newR) o = g
      obtain ⟨g1, g2, g3⟩ := g
      cases g3 <;> rfl
/-! own reading's rows -/
theorem rows0_len : ∀ (s : RSt) (r : Row), ((rows0 s r).2.2 = none → (rows0 s r).1.length = r.length) ∧ (∀ p, (rows0 s r).2.2 = some p → (rows0 s r).1.length < r.length)
  | s, [] => ⟨fun _ => rfl, fun p h => by cases h⟩
  | s, b :: r => by
    rw [rows0_cons]
    cases rtake s b with
    | wrong q => exact ⟨fun h => (by cases h), fun p _ => by simp⟩
    | ok o s' =>
      obtain ⟨h1, h2⟩ := rows0_len s' r
      exact ⟨fun h => congrArg Nat.succ (h1 h), fun p h => Nat.succ_lt_succ (h2 p h)⟩
def putLF (lf : Option LF) (a b : Nat) (e : Bool) : Option LF := match lf with
  | none => none
  | some (.wrong p) => if a < b ∨ e = true then some (.wrong p) else none
  | some .cut => if e = true then some .cut else none
theorem putLF_first (lf : Option LF) (a b : Nat) : putLF lf a b true = lf := by
  match lf with
  | none => rfl
  | some (.wrong p) => exact if_pos (Or.inr rfl)
  | some .cut => rfl
/-- how the own reading's rows and fault stand to the reader's -/
theorem own_later (s : RSt) (r : Row) : ((own s r).1.take r.length).flatten = (rfeed s r).1 ∧ putLF (own s r).2 (own s r).1.length r.length false = (rfeed s r).2.2.map LF.wrong ∧ (∀ f, (own s r).2 = some f → (own s r).1.length ≤ r.length) ∧ (own s r).1.length ≤ r.length + 1 := by
  obtain ⟨h1, h2⟩ := rows0_len s r
  rw [rows0_feed]
  unfold own
  generalize rows0 s r = q at *
  obtain ⟨o, s', f⟩ := q
  cases f with
  | some p =>
    have hl : o.length < r.length := h2 p rfl
    dsimp only
    refine ⟨by rw [List.take_of_length_le (by omega)], ?_, fun _ _ => by omega, by omega⟩
    exact if_pos (Or.inl hl)
  | none =>
    have hl : o.length = r.length := h1 rfl
    dsimp only
    cases rend s' with
    | wrong p =>
      dsimp only
      refine ⟨by rw [List.take_of_length_le (by omega)], ?_, fun _ _ => by omega, by omega⟩
      exact if_neg (fun z => by
        rcases z with z | z
        · omega
        · cases z)
    | cut =>
      dsimp only
      refine ⟨by rw [List.take_of_length_le (by omega)], rfl, fun _ _ => by omega, by omega⟩
    | ok row =>
      dsimp only
      refine ⟨by rw [← hl, List.take_left], rfl, ?_, ?_⟩
      · intro f h
        cases h
      · rw [List.length_append, hl]
        exact Nat.le_refl _
/-! what is told, with its times -/
abbrev TRow := List (Int × Row)
def blockOf (r : Row) (tm : Row) : TRow := (List.range r.length).map fun i : Nat => (gI r (i : Int), tm ++ [(i : Int)])
def newOf (rows : List Row) (times : List Row) (m : Nat) : TRow := ((List.range m).map fun k => blockOf (rows.getD k []) (times.getD k [])).flatten
theorem newOf_succ (rows : List Row) (times : List Row) (m : Nat) : newOf rows times (m + 1) = newOf rows times m ++ blockOf (rows.getD m []) (times.getD m []) := by
  unfold newOf
  rw [List.range_succ, List.map_append, List.flatten_append]
  simp
theorem block_fst (r tm : Row) : (blockOf r tm).map (·.1) = r := by
  unfold blockOf
  rw [List.map_map]
  refine List.ext_getElem? fun i => ?_
  rw [List.getElem?_map]
  by_cases h : i < r.length
  · rw [List.getElem?_range h, List.getElem?_eq_getElem h]
    show some (gI r (i : Int)) = _
    rw [gI_nat (List.getElem?_eq_getElem h)]
  · rw [List.getElem?_eq_none (by rw [List.length_range]; omega), List.getElem?_eq_none (by omega)]
    rfl
theorem newOf_fst (rows times : List Row) : ∀ m, m ≤ rows.length → (newOf rows times m).map (·.1) = (rows.take m).flatten
  | 0, _ => rfl
  | m + 1, h => by
    have e : rows.getD m [] = rows[m] := by simp [List.getD, List.getElem?_eq_getElem (show m < rows.length by omega)]
    rw [newOf_succ, List.map_append, newOf_fst rows times m (by omega), block_fst, List.take_succ_eq_append_getElem (by omega), List.flatten_append, e]
    simp
theorem newOf_mem {rows times : List Row} {x : Int × Row} : ∀ {m : Nat}, x ∈ newOf rows times m → ∃ (k : Nat) (i : Nat), k < m ∧ x.2 = times.getD k [] ++ [(i : Int)]
  | 0, h => by simp [newOf] at h
  | m + 1, h => by
    rw [newOf_succ] at h
    rcases List.mem_append.mp h with h | h
    · obtain ⟨k, i, h1, h2⟩ := newOf_mem h
      exact ⟨k, i, by omega, h2⟩
    · obtain ⟨i, _, rfl⟩ := List.mem_map.mp h
      exact ⟨m, i, by omega, rfl⟩
theorem block_sorted (r tm : Row) : (blockOf r tm).Pairwise fun a b => Ahead a.2 b.2 := by
  unfold blockOf
  rw [List.pairwise_map]
  refine List.Pairwise.imp (fun {a b} h => ?_) (List.pairwise_lt_range (n := r.length))
  exact Ahead.same tm (by omega)
theorem newOf_sorted {rows times : List Row} (h : times.Pairwise Ahead) : ∀ m, m ≤ times.length → (newOf rows times m).Pairwise fun a b => Ahead a.2 b.2
  | 0, _ => by simp [newOf]
  | m + 1, hm => by
    rw [newOf_succ, List.pairwise_append]
    refine ⟨newOf_sorted h m (by omega), block_sorted _ _, fun a ha b hb => ?_⟩
    obtain ⟨k, i, hk, e⟩ := newOf_mem ha
    obtain ⟨i2, _, rfl⟩ := List.mem_map.mp hb
    rw [e]
    refine Ahead.left _ (Ahead.right _ ?_)
    have h2 := List.pairwise_iff_getElem.mp h k m (by omega) (by omega) hk
    simp only [List.getD, List.getElem?_eq_getElem (show k < times.length by omega), List.getElem?_eq_getElem (show m < times.length by omega)]
    exact h2
structure Tim (N : Nat) (i : Nat) (told : TRow) (faults : List (Row × Fault)) : Prop where
  srt : told.Pairwise fun a b => Ahead a.2 b.2
  hd : ∀ x, x ∈ told → Ahead x.2 [((N + i : Nat) : Int)]
  ft : ∀ x, x ∈ told → ∀ f, f ∈ faults → Ahead x.2 f.1
  fs : faults.Pairwise fun f g => Ahead g.1 f.1
def foOf (faults : List (Row × Fault)) : Option Fault := faults.getLast?.map (·.2)
def fPut (j : Nat) (tm : Row) (faults : List (Row × Fault)) : Option LF → List (Row × Fault)
  | none => faults
  | some f => faults ++ [(tm, f.at_ (j : Int))]
theorem Tim.start (r : Row) : Tim r.length 0 ((List.range r.length).map fun k : Nat => (gI r (k : Int), [(k : Int)])) [] := by
  refine ⟨?_, fun x hx => ?_, fun _ _ f hf => (by cases hf), .nil⟩
  · rw [List.pairwise_map]
    refine List.Pairwise.imp (fun {a b} h => ?_) (List.pairwise_lt_range (n := r.length))
    exact Ahead.same [] (by omega)
  · obtain ⟨k, hk, rfl⟩ := List.mem_map.mp hx
    have := List.mem_range.mp hk
    exact Ahead.same [] (by omega)
def mOf (rows : List Row) (told : TRow) (faults : List (Row × Fault)) : Nat := if faults.isEmpty = true then rows.length else min rows.length told.length
theorem Tim.step {N i : Nat} {told : TRow} {faults : List (Row × Fault)} (h : Tim N i told faults) (j : Nat) (ly : Lay) {rows : List Row} {lf : Option LF} (ho : own (newR ly) (told.map (·.1)) = (rows, lf)) {times : List Row} (ht : times = told.map (·.2) ++ [[((N + i : Nat) : Int)]]) :
    Tim N (i + 1) (newOf rows times (mOf rows told faults)) (fPut j (times.getD rows.length []) faults (putLF lf rows.length told.length faults.isEmpty)) ∧
    ((newOf rows times (mOf rows told faults)).map (·.1), foOf (fPut j (times.getD rows.length []) faults (putLF lf rows.length told.length faults.isEmpty))) = lstep j ly (told.map (·.1), foOf faults) ∧
    (∀ f, putLF lf rows.length told.length faults.isEmpty = some f → rows.length ≤ told.length) := by
  have hol := own_later (newR ly) (told.map (·.1))
  have hof := own_fin (newR ly) (told.map (·.1))
  rw [ho] at hol hof
  obtain ⟨l1, l2, l3, l4⟩ := hol
  dsimp only at l1 l2 l3 l4 hof
  rw [List.length_map] at l1 l2 l3 l4
  have htl : times.length = told.length + 1 := by rw [ht, List.length_append, List.length_map]; rfl
  have hsrt : times.Pairwise Ahead := by
    rw [ht, List.pairwise_append]
    refine ⟨by rw [List.pairwise_map]; exact h.srt, by simp, fun a ha b hb => ?_⟩
    obtain ⟨x, hx, rfl⟩ := List.mem_map.mp ha
    rw [List.mem_singleton.mp hb]
    exact h.hd x hx
  have hget : ∀ k, k < told.length → times.getD k [] ∈ told.map (·.2) := fun k hk => by
    rw [ht]
    have hk2 : k < (told.map (·.2)).length := by rw [List.length_map]; exact hk
    simp only [List.getD]
    rw [List.getElem?_append_left hk2, List.getElem?_eq_getElem hk2]
    exact List.getElem_mem hk2
  have hlast : times.getD told.length [] = [((N + i : Nat) : Int)] := by
    rw [ht]
    simp [List.getD]
  have hm1 : mOf rows told faults ≤ rows.length := by
    unfold mOf
    split
    · exact Nat.le_refl _
    · exact Nat.min_le_left _ _
  have hm2 : faults.isEmpty = false → mOf rows told faults ≤ told.length := fun z => by
    unfold mOf
    rw [z]
    exact Nat.min_le_right _ _
  have hhd : ∀ x, x ∈ newOf rows times (mOf rows told faults) → Ahead x.2 [((N + (i + 1) : Nat) : Int)] := fun x hx => by
    obtain ⟨k, i2, hk, e⟩ := newOf_mem hx
    rw [e]
    refine Ahead.left _ ?_
    by_cases hk2 : k < told.length
    · obtain ⟨y, hy, e2⟩ := List.mem_map.mp (hget k hk2)
      rw [← e2]
      have h3 := h.hd y hy
      generalize y.2 = t at h3
      match t, h3 with
      | z :: t, h3 =>
        rcases h3 with h3 | ⟨_, h3⟩
        · exact Or.inl (by omega)
        · cases t <;> exact absurd h3 (by simp [Ahead])
    · have : k = told.length := by omega
      subst this
      rw [hlast]
      exact Ahead.same [] (by omega)
  have hold : ∀ x, x ∈ newOf rows times (mOf rows told faults) → ∀ f, f ∈ faults → Ahead x.2 f.1 := fun x hx f hf => by
    have hne : faults.isEmpty = false := by
      cases faults with
      | nil => cases hf
      | cons _ _ => rfl
    obtain ⟨k, i2, hk, e⟩ := newOf_mem hx
    rw [e]
    refine Ahead.left _ ?_
    obtain ⟨y, hy, e2⟩ := List.mem_map.mp (hget k (by have := hm2 hne; omega))
    rw [← e2]
    exact h.ft y hy f hf
  have hput : ∀ f, putLF lf rows.length told.length faults.isEmpty = some f → rows.length ≤ told.length ∧ (faults.isEmpty = false → rows.length < told.length) := fun f hp => by
    match lf, l3 with
    | none, _ => cases hp
    | some (.wrong p), l3 =>
      refine ⟨l3 _ rfl, fun z => ?_⟩
      rw [z] at hp
      unfold putLF at hp
      dsimp only at hp
      by_cases c : rows.length < told.length ∨ false = true
      · rcases c with c | c
        · exact c
        · cases c
      · rw [if_neg c] at hp
        cases hp
    | some .cut, l3 =>
      refine ⟨l3 _ rfl, fun z => ?_⟩
      rw [z] at hp
      cases hp
  refine ⟨⟨newOf_sorted hsrt _ (by omega), hhd, ?_, ?_⟩, ?_, fun f hp => (hput f hp).1⟩
  · intro x hx f hf
    cases hp : putLF lf rows.length told.length faults.isEmpty with
    | none =>
      rw [hp] at hf
      exact hold x hx f hf
    | some g =>
      rw [hp] at hf
      rcases List.mem_append.mp hf with hf | hf
      · exact hold x hx f hf
      · rw [List.mem_singleton.mp hf]
        obtain ⟨k, i2, hk, e⟩ := newOf_mem hx
        rw [e]
        refine Ahead.left _ ?_
        have h2 := (hput g hp).1
        have h3 := List.pairwise_iff_getElem.mp hsrt k rows.length (by omega) (by omega) (by omega)
        simp only [List.getD, List.getElem?_eq_getElem (show k < times.length by omega), List.getElem?_eq_getElem (show rows.length < times.length by omega)]
        exact h3
  · cases hp : putLF lf rows.length told.length faults.isEmpty with
    | none => exact h.fs
    | some g =>
      show (faults ++ [(times.getD rows.length [], g.at_ (j : Int))]).Pairwise _
      rw [List.pairwise_append]
      refine ⟨h.fs, by simp, fun f hf b hb => ?_⟩
      rw [List.mem_singleton.mp hb]
      have hne : faults.isEmpty = false := by
        cases faults with
        | nil => cases hf
        | cons _ _ => rfl
      obtain ⟨y, hy, e2⟩ := List.mem_map.mp (hget rows.length ((hput g hp).2 hne))
      show Ahead (times.getD rows.length []) f.1
      rw [← e2]
      exact h.ft y hy f hf
  · rw [newOf_fst rows times _ hm1]
    cases faults with
    | nil =>
      have em : mOf rows told [] = rows.length := rfl
      rw [em, List.take_length]
      show (rows.flatten, foOf (fPut j (times.getD rows.length []) [] (putLF lf rows.length told.length true))) = lstep j ly (told.map (·.1), none)
      rw [putLF_first]
      show _ = ((rfin (newR ly) (told.map (·.1))).1, (rfin (newR ly) (told.map (·.1))).2.map (LF.at_ (j : Int)))
      rw [hof]
      cases lf with
      | none => rfl
      | some f => rfl
    | cons f0 fr =>
      have em : mOf rows told (f0 :: fr) = min rows.length told.length := rfl
      have et : rows.take (min rows.length told.length) = rows.take told.length := by
        by_cases c : rows.length ≤ told.length
        · rw [Nat.min_eq_left c, List.take_of_length_le (Nat.le_refl _), List.take_of_length_le c]
        · rw [Nat.min_eq_right (by omega)]
      have ee : (f0 :: fr).isEmpty = false := rfl
      rw [em, et, l1, ee, l2]
      obtain ⟨x, hx⟩ : ∃ x, foOf (f0 :: fr) = some x := by
        unfold foOf
        rw [List.getLast?_cons]
        exact ⟨_, rfl⟩
      rw [hx]
      unfold lstep
      dsimp only
      generalize (rfeed (newR ly) (told.map (·.1))).2.2 = pf
      cases pf with
      | none =>
        show (_, foOf (f0 :: fr)) = _
        rw [hx]
        rfl
      | some p =>
        show (_, foOf ((f0 :: fr) ++ [_])) = _
        unfold foOf
        rw [List.getLast?_append]
        rfl
end Flow

/-! plain, k20: one changed byte under a layer of checks is told -/
namespace Flow
theorem next_inj {c c' b : Int} (h0 : 0 ≤ c) (h1 : c < 65521) (g0 : 0 ≤ c') (g1 : c' < 65521) (h : nextCheck c b = nextCheck c' b) : c = c' := by
  unfold nextCheck at h
  omega
theorem next_inj2 {c x y : Int} (hx : By x) (hy : By y) (h : nextCheck c x = nextCheck c y) : x = y := by
  unfold nextCheck at h
  obtain ⟨x0, x1⟩ := hx
  obtain ⟨y0, y1⟩ := hy
  omega
theorem all_inj : ∀ (r : Row) {c c' : Int}, 0 ≤ c → c < 65521 → 0 ≤ c' → c' < 65521 → checkAll c r = checkAll c' r → c = c'
  | [], c, c', _, _, _, _, h => h
  | b :: r, c, c', h0, h1, g0, g1, h => next_inj h0 h1 g0 g1 (all_inj r (next_in c b).1 (next_in c b).2 (next_in c' b).1 (next_in c' b).2 h)
theorem all_change {a b : Row} {c x y : Int} (hx : By x) (hy : By y) (h : checkAll c (a ++ x :: b) = checkAll c (a ++ y :: b)) : x = y := by
  rw [checkAll_app, checkAll_app] at h
  exact next_inj2 hx hy (all_inj b (next_in _ x).1 (next_in _ x).2 (next_in _ y).1 (next_in _ y).2 h)
theorem bytes_inj {c c' : Int} (h : checkBytes c = checkBytes c') : c = c' := by
  unfold checkBytes at h
  injection h with h1 h2
  injection h2 with h2 h3
  omega
theorem set_mid : ∀ {r : Row} {i : Nat} {x y : Int}, r[i]? = some y → ∃ a b, r = a ++ y :: b ∧ r.set i x = a ++ x :: b
  | [], i, x, y, h => by simp at h
  | z :: r, 0, x, y, h => by
    have e : z = y := Option.some.inj h
    subst e
    exact ⟨[], r, rfl, rfl⟩
  | z :: r, i + 1, x, y, h => by
    obtain ⟨a, b, e1, e2⟩ := set_mid (r := r) (i := i) (x := x) (y := y) h
    exact ⟨z :: a, b, by rw [e1]; rfl, by show z :: r.set i x = _; rw [e2]; rfl⟩
/-- data and its check, with one byte changed -/
theorem spoilt {D : Row} {c x y : Int} {i : Nat} (hc0 : 0 ≤ c) (hc1 : c < 65521) (hD : Bys D) (hx : By x) (hy : (D ++ checkBytes (checkAll c D))[i]? = some y) (ne : x ≠ y) :
    blockTail ((D ++ checkBytes (checkAll c D)).set i x) ≠ checkBytes (checkAll c (blockRow ((D ++ checkBytes (checkAll c D)).set i x))) := by
  have hl : ((D ++ checkBytes (checkAll c D)).set i x).length - 2 = D.length := by
    rw [List.length_set, List.length_append]
    show D.length + 2 - 2 = _
    omega
  unfold blockTail blockRow
  rw [hl]
  by_cases hi : i < D.length
  · rw [List.getElem?_append_left hi] at hy
    rw [List.set_append_left _ _ hi]
    have hs : (D.set i x).length = D.length := List.length_set ..
    rw [← hs, List.drop_left, List.take_left]
    intro h
    have h2 := bytes_inj h
    obtain ⟨a, b, e1, e2⟩ := set_mid (x := x) hy
    rw [e2, e1] at h2
    exact ne (all_change hx (hD y (List.mem_of_getElem? hy)) h2.symm)
  · rw [List.getElem?_append_right (by omega)] at hy
    rw [List.set_append_right _ _ (by omega), List.drop_left, List.take_left]
    intro h
    generalize i - D.length = j at hy h
    have h3 := congrArg (fun l : Row => l[j]?) h
    rw [hy, List.getElem?_set_self (List.getElem?_eq_some_iff.mp hy).1] at h3
    exact ne (Option.some.inj h3)
/-! the writer's blocks -/
theorem wck_short (n : Int) : ∀ (r : Row) (many c : Int), many + r.length < n → wfin (.checks n many c) r = r ++ checkBytes (checkAll c r)
  | [], many, c, _ => rfl
  | b :: r, many, c, h => by
    rw [List.length_cons] at h
    have h1 : wtake (.checks n many c) b = ([b], .checks n (many + 1) (nextCheck c b)) := by
      simp only [wtake, takeChecks]
      rw [if_pos (by omega)]
    have ih := wck_short n r (many + 1) (nextCheck c b) (by omega)
    unfold wfin at ih ⊢
    show ((wtake (.checks n many c) b).1 ++ (wfeed (wtake (.checks n many c) b).2 r).1) ++ wend (wfeed (wtake (.checks n many c) b).2 r).2 = _
    rw [h1]
    dsimp only
    rw [List.append_assoc, ih]
    rfl
theorem wck_block (n : Int) : ∀ (r : Row) (many c : Int), many + r.length = n → 1 ≤ r.length → wfeed (.checks n many c) r = (r ++ checkBytes (checkAll c r), .checks n 0 (checkAll c r))
  | [], many, c, _, h => by simp at h
  | [b], many, c, h, _ => by
    have h1 : wtake (.checks n many c) b = (b :: checkBytes (nextCheck c b), .checks n 0 (nextCheck c b)) := by
      simp only [wtake, takeChecks]
      rw [if_neg (by simp at h; omega)]
    show ((wtake (.checks n many c) b).1 ++ [], (wtake (.checks n many c) b).2) = _
    rw [h1, List.append_nil]
    rfl
  | b :: b2 :: r, many, c, h, _ => by
    rw [List.length_cons] at h
    have h1 : wtake (.checks n many c) b = ([b], .checks n (many + 1) (nextCheck c b)) := by
      simp only [wtake, takeChecks]
      rw [if_pos (by simp at h; omega)]
    have ih := wck_block n (b2 :: r) (many + 1) (nextCheck c b) (by omega) (by simp)
    show ((wtake (.checks n many c) b).1 ++ (wfeed (wtake (.checks n many c) b).2 (b2 :: r)).1, (wfeed (wtake (.checks n many c) b).2 (b2 :: r)).2) = _
    rw [h1]
    dsimp only
    rw [ih]
    rfl
/-! the reader's -/
theorem rck_block (n c done : Int) (Z : Row) (hZ : (Z.length : Int) = n + 2) (hn : 0 ≤ n) : rfeed (.checks n done c []) Z = (if blockTail Z = checkBytes (checkAll c (blockRow Z)) then (blockRow Z, .checks n (done + n + 2) (checkAll c (blockRow Z)) [], none) else ([], .checks n (done + n + 1) c Z.dropLast, some (done + n + 1))) := by
  obtain ⟨Y, z, rfl⟩ : ∃ Y z, Z = Y ++ [z] := by
    rcases List.eq_nil_or_concat Z with h | ⟨Y, z, h⟩
    · rw [h] at hZ; simp at hZ; omega
    · exact ⟨Y, z, by rw [h]; simp⟩
  rw [List.length_append] at hZ
  have hY : (Y.length : Int) = n + 1 := by simp at hZ; omega
  rw [rfeed_app, feed_held n c Y done [] (by simp; omega)]
  dsimp only
  simp only [List.nil_append]
  rw [rfeed_cons, hY]
  have e : rtake (.checks n (done + (n + 1)) c Y) z = (if blockTail (Y ++ [z]) = checkBytes (checkAll c (blockRow (Y ++ [z]))) then .ok (blockRow (Y ++ [z])) (.checks n (done + (n + 1) + 1) (checkAll c (blockRow (Y ++ [z]))) []) else .wrong (done + (n + 1))) := by
    simp only [rtake]
    rw [if_pos (by simp; omega)]
  rw [e, List.dropLast_concat]
  by_cases h : blockTail (Y ++ [z]) = checkBytes (checkAll c (blockRow (Y ++ [z])))
  · rw [if_pos h, if_pos h]
    dsimp only
    show ([] ++ (blockRow (Y ++ [z]) ++ []), _, _) = _
    rw [List.append_nil, List.nil_append]
    rw [show done + (n + 1) + 1 = done + n + 2 by omega]
  · rw [if_neg h, if_neg h]
    dsimp only
    rw [show done + (n + 1) = done + n + 1 by omega]
theorem place_first {i n L : Int} (h0 : 0 ≤ i) (h1 : i < n + 2) (hL : n + 2 ≤ L) (hn : 0 ≤ n) : min (i / (n + 2) * (n + 2) + n + 1) (L - 1) = n + 1 := by
  have e : i / (n + 2) = 0 := Int.ediv_eq_zero_of_lt h0 h1
  rw [e]
  omega
theorem place_next {i n L : Int} (h1 : n + 2 ≤ i) (hn : 0 ≤ n) : min (i / (n + 2) * (n + 2) + n + 1) (L - 1) = (n + 2) + min ((i - (n + 2)) / (n + 2) * (n + 2) + n + 1) (L - (n + 2) - 1) := by
  have e : (i - (n + 2)) / (n + 2) = i / (n + 2) - 1 := by
    have := Int.sub_ediv_of_dvd i (Int.dvd_refl (n + 2))
    rw [this, Int.ediv_self (by omega)]
  rw [e, Int.sub_mul]
  omega
theorem wck_next {m : Nat} {r : Row} {c : Int} (hm : 1 ≤ m) (hr : m ≤ r.length) : wfin (.checks (m : Int) 0 c) r = (r.take m ++ checkBytes (checkAll c (r.take m))) ++ wfin (.checks (m : Int) 0 (checkAll c (r.take m))) (r.drop m) := by
  have ht : (r.take m).length = m := by rw [List.length_take]; omega
  have h := wck_block (m : Int) (r.take m) 0 c (by rw [ht]; omega) (by omega)
  have e : wfin (.checks (m : Int) 0 c) (r.take m ++ r.drop m) = _ := wfin_app _ _ _
  rw [List.take_append_drop] at e
  rw [e, h]
theorem change_layer {m : Nat} (hm : 1 ≤ m) : ∀ (k : Nat) (r : Row) (c done : Int) (i : Nat) (x y : Int), r.length ≤ k → Bys r → 0 ≤ c → c < 65521 → (wfin (.checks (m : Int) 0 c) r)[i]? = some y → x ≠ y → By x →
    ∃ o t, rfin (.checks (m : Int) done c []) ((wfin (.checks (m : Int) 0 c) r).set i x) = (o, some (.wrong (done + min ((i : Int) / ((m : Int) + 2) * ((m : Int) + 2) + m + 1) (((wfin (.checks (m : Int) 0 c) r).length : Int) - 1)))) ∧ r = o ++ t := by
  intro k
  induction k with
  | zero =>
    intro r c done i x y hk hb hc0 hc1 hy ne hx
    have hr : r = [] := List.eq_nil_of_length_eq_zero (by omega)
    subst hr
    have ew : wfin (.checks (m : Int) 0 c) [] = [] ++ checkBytes (checkAll c []) := wck_short (m : Int) [] 0 c (by simp; omega)
    rw [ew] at hy ⊢
    have bad := spoilt hc0 hc1 hb hx hy ne
    have hi : i < 2 := by
      have := (List.getElem?_eq_some_iff.mp hy).1
      simpa [checkBytes] using this
    have hl : (([] ++ checkBytes (checkAll c [])).set i x).length = 2 := by simp [checkBytes]
    refine ⟨[], [], ?_, rfl⟩
    unfold rfin
    rw [feed_held (m : Int) c _ done [] (by rw [hl]; simp; omega)]
    dsimp only
    simp only [rend]
    rw [List.nil_append, if_neg (by rw [hl]; decide), if_neg bad, hl]
    have e2 : (List.length ([] ++ checkBytes (checkAll c [])) : Int) = 2 := rfl
    rw [e2]
    have e3 : (i : Int) / ((m : Int) + 2) = 0 := Int.ediv_eq_zero_of_lt (by omega) (by omega)
    rw [e3]
    have e4 : min (0 * ((m : Int) + 2) + m + 1) (2 - 1) = 1 := by omega
    rw [e4]
    show ([], some (LF.wrong (done + 2 - 1))) = _
    rw [show done + 2 - 1 = done + 1 by omega]
  | succ k ih =>
    intro r c done i x y hk hb hc0 hc1 hy ne hx
    by_cases hr : r.length < m
    · have ew : wfin (.checks (m : Int) 0 c) r = r ++ checkBytes (checkAll c r) := wck_short (m : Int) r 0 c (by omega)
      rw [ew] at hy ⊢
      have bad := spoilt hc0 hc1 hb hx hy ne
      have hl0 : (r ++ checkBytes (checkAll c r)).length = r.length + 2 := by rw [List.length_append]; rfl
      have hi : i < r.length + 2 := by
        have := (List.getElem?_eq_some_iff.mp hy).1
        rwa [hl0] at this
      have hl : ((r ++ checkBytes (checkAll c r)).set i x).length = r.length + 2 := by rw [List.length_set, hl0]
      refine ⟨[], r, ?_, rfl⟩
      unfold rfin
      rw [feed_held (m : Int) c _ done [] (by rw [hl]; simp; omega)]
      dsimp only
      simp only [rend]
      rw [List.nil_append, if_neg (by rw [hl]; omega), if_neg bad, hl, hl0]
      have e3 : (i : Int) / ((m : Int) + 2) = 0 := Int.ediv_eq_zero_of_lt (by omega) (by omega)
      rw [e3]
      have e4 : min (0 * ((m : Int) + 2) + m + 1) (((r.length + 2 : Nat) : Int) - 1) = ((r.length + 2 : Nat) : Int) - 1 := by omega
      rw [e4]
      show ([], some (LF.wrong (done + ((r.length + 2 : Nat) : Int) - 1))) = _
      rw [show done + ((r.length + 2 : Nat) : Int) - 1 = done + (((r.length + 2 : Nat) : Int) - 1) by omega]
    · have ew := wck_next (r := r) (c := c) hm (by omega)
      have ht : (r.take m).length = m := by rw [List.length_take]; omega
      have hbt : Bys (r.take m) := fun z hz => hb z (List.mem_of_mem_take hz)
      have hbd : Bys (r.drop m) := fun z hz => hb z (List.mem_of_mem_drop hz)
      have hlB : (r.take m ++ checkBytes (checkAll c (r.take m))).length = m + 2 := by rw [List.length_append, ht]; rfl
      have ⟨c0, c1⟩ := checkAll_ok c (r.take m) hc0 hc1
      generalize hS : wfin (.checks (m : Int) 0 (checkAll c (r.take m))) (r.drop m) = S at *
      generalize hB : r.take m ++ checkBytes (checkAll c (r.take m)) = B at *
      rw [ew] at hy ⊢
      have hL : (((B ++ S).length : Nat) : Int) = (m : Int) + 2 + (S.length : Int) := by rw [List.length_append, hlB]; omega
      rw [hL]
      by_cases hi : i < m + 2
      · rw [List.getElem?_append_left (by omega)] at hy
        rw [List.set_append_left _ _ (by omega)]
        rw [← hB] at hy
        have bad := spoilt hc0 hc1 hbt hx hy ne
        rw [hB] at bad
        have hl : (((B.set i x).length : Nat) : Int) = (m : Int) + 2 := by rw [List.length_set, hlB]; omega
        refine ⟨[], r, ?_, rfl⟩
        unfold rfin
        rw [rfeed_app, rck_block (m : Int) c done (B.set i x) hl (by omega), if_neg bad]
        dsimp only
        rw [place_first (by omega) (by omega) (by omega) (by omega)]
        rw [show done + (m : Int) + 1 = done + ((m : Int) + 1) by omega]
      · rw [List.getElem?_append_right (by omega), hlB] at hy
        rw [List.set_append_right _ _ (by omega), hlB]
        rw [← hS] at hy
        obtain ⟨o, t, e1, e2⟩ := ih (r.drop m) (checkAll c (r.take m)) (done + m + 2) (i - (m + 2)) x y (by rw [List.length_drop]; omega) hbd c0 c1 hy ne hx
        rw [hS] at e1
        have good : blockTail B = checkBytes (checkAll c (blockRow B)) ∧ blockRow B = r.take m := by
          have h2 := block_of (r.take m) (checkAll c (r.take m) / 256) (checkAll c (r.take m) % 256)
          have h3 : r.take m ++ [checkAll c (r.take m) / 256, checkAll c (r.take m) % 256] = B := hB
          rw [h3] at h2
          exact ⟨by rw [h2.1, h2.2]; rfl, h2.1⟩
        have hl : ((B.length : Nat) : Int) = (m : Int) + 2 := by rw [hlB]; omega
        refine ⟨r.take m ++ o, t, ?_, by rw [List.append_assoc, ← e2, List.take_append_drop]⟩
        have e3 : rfin (.checks (m : Int) done c []) (B ++ S.set (i - (m + 2)) x) = (r.take m ++ (rfin (.checks (m : Int) (done + m + 2) (checkAll c (r.take m)) []) (S.set (i - (m + 2)) x)).1, (rfin (.checks (m : Int) (done + m + 2) (checkAll c (r.take m)) []) (S.set (i - (m + 2)) x)).2) := by
          unfold rfin
          rw [rfeed_app, rck_block (m : Int) c done B hl (by omega), if_pos good.1, good.2]
          dsimp only
          generalize rfeed (RSt.checks (m : Int) (done + m + 2) (checkAll c (r.take m)) []) (S.set (i - (m + 2)) x) = q
          obtain ⟨q1, q2, q3⟩ := q
          cases q3 with
          | some p => rfl
          | none =>
            dsimp only
            cases rend q2 with
            | wrong p => rfl
            | cut => rfl
            | ok row =>
              dsimp only
              rw [List.append_assoc]
        rw [e3, e1]
        dsimp only
        have e5 : (((i - (m + 2) : Nat)) : Int) = (i : Int) - ((m : Int) + 2) := by omega
        rw [e5, place_next (i := (i : Int)) (L := (m : Int) + 2 + (S.length : Int)) (by omega) (by omega)]
        have e6 : (m : Int) + 2 + (S.length : Int) - ((m : Int) + 2) - 1 = (S.length : Int) - 1 := by omega
        rw [e6]
        congr 3
        omega
theorem change_told {lays : List Lay} {m : Nat} {row : Row} {i : Nat} {x y : Int} (hm : 1 ≤ m) (oks : ∀ ly, ly ∈ lays → ly.Ok) (hb : Bys row) (hy : (written (lays ++ [.checks (m : Int)]) row)[i]? = some y) (ne : x ≠ y) (hx : By x) :
    ∃ o t, readAll (lays ++ [.checks (m : Int)]) ((written (lays ++ [.checks (m : Int)]) row).set i x) = (o, some (.wrong (lays.length : Int) (min ((i : Int) / ((m : Int) + 2) * ((m : Int) + 2) + m + 1) (((written (lays ++ [.checks (m : Int)]) row).length : Int) - 1)))) ∧ row = o ++ t := by
  rw [written_snoc] at hy ⊢
  obtain ⟨o, t, e1, e2⟩ := change_layer hm (written lays row).length (written lays row) 0 0 i x y (Nat.le_refl _) (written_by oks hb) (by decide) (by decide) hy ne hx
  obtain ⟨o1, ss1, e, f1, f2, f3, f4⟩ := readAll_ok (again lays oks row hb)
  rw [e2] at f1
  obtain ⟨a1, s1, a2, g1, g2, g3⟩ := begin_ok _ f1
  refine ⟨a1, a2 ++ e, ?_, by rw [f4, g3, List.append_assoc]⟩
  rw [readAll_snoc]
  have e3 : rfin (newR (.checks (m : Int))) ((wfin (newW (.checks (m : Int))) (written lays row)).set i x) = (o, some (.wrong (0 + min ((i : Int) / ((m : Int) + 2) * ((m : Int) + 2) + m + 1) (((wfin (newW (.checks (m : Int))) (written lays row)).length : Int) - 1)))) := e1
  rw [e3]
  dsimp only
  rw [g1]
  dsimp only
  rw [Int.zero_add]
  rfl
end Flow

/-! plain, k11: a stream that is read without a fault is the one that writing its bytes gives -/
namespace Flow
theorem signOf_idx {b : Int} (h : b ∈ signsT) : signOf (signsT.idxOf b : Int) = b := by
  have hl : signsT.idxOf b < signsT.length := List.idxOf_lt_length_of_mem h
  unfold signOf gI
  rw [Int.toNat_natCast]
  simp [List.getD, hl, List.getElem_idxOf]
/-- the part of runs that a writer still holds -/
def preR (lastN lastB : Int) : Row := if 0 < lastN ∧ lastN < 255 then [lastN, lastB] else []
def lenR (m : Int) : Row := if m = 0 then [] else [m]
/-- a writer that was given all that a reader told; what it has still to write of what was read -/
def OSim : WSt → RSt → Row → Prop
  | .add key at_, .add key' at', ow => key' = key ∧ at' = at_ ∧ ow = []
  | .front row, .front row', ow => row' = row ∧ row.Nodup ∧ ow = []
  | .esc e, .esc e' _ m, ow => e' = e ∧ ow = if m = true then [(e + 1) % 256] else []
  | .runs wm wb, .runs _ m lastN lastB, ow => ow = preR lastN lastB ++ lenR m ∧ (0 < lastN ∧ lastN < 255 → wm = lastN ∧ wb = lastB) ∧ (¬(0 < lastN ∧ lastN < 255) → wm = 0)
  | .chunks size held, .chunks size' _ left isLast, ow => size' = size ∧ ((left = 0 ∧ isLast = false ∧ held = [] ∧ ow = []) ∨ (ow = ((held.length : Int) + left) :: held ∧ isLast = decide ((held.length : Int) + left < size) ∧ (held.length : Int) + left ≤ size ∧ 0 ≤ left ∧ (isLast = false → 0 < left)))
  | .checks size many check, .checks size' _ check' held, ow => size' = size ∧ many = 0 ∧ check' = check ∧ ow = held
  | .signs many value, .signs _ m v, ow => (m = 0 ∧ many = 0 ∧ ow = []) ∨ (m = 6 ∧ many = 0 ∧ ow = [signOf v]) ∨ (m = 4 ∧ many = 2 ∧ ow = [signOf (value * 16 + v)]) ∨ (m = 2 ∧ many = 4 ∧ ow = [signOf (value * 4 + v)])
  | _, _, _ => False
theorem wfeed_one (s : WSt) (b : Int) : wfeed s [b] = wtake s b := by
  show ((wtake s b).1 ++ [], (wtake s b).2) = _
  rw [List.append_nil]
theorem wfeed_nl (s : WSt) : wfeed s [] = ([], s) := rfl
theorem wfeed_cs (s : WSt) (b : Int) (r : Row) : wfeed s (b :: r) = ((wtake s b).1 ++ (wfeed (wtake s b).2 r).1, (wfeed (wtake s b).2 r).2) := rfl
theorem idx_nodup : ∀ {r : Row} {k : Nat} (h : k < r.length), r.Nodup → r.idxOf (r[k]) = k
  | [], k, h, _ => absurd h (by simp)
  | x :: r, 0, h, _ => by simp
  | x :: r, k + 1, h, nd => by
    have h1 := List.nodup_cons.mp nd
    have hk : k < r.length := by simpa using h
    have e : (x :: r)[k + 1] = r[k] := rfl
    rw [e, List.idxOf_cons]
    have ne : ¬ x = r[k] := fun z => h1.1 (by rw [z]; exact List.getElem_mem hk)
    have ih := idx_nodup hk h1.2
    have hb : (x == r[k]) = false := by simp [ne]
    rw [hb, ih]
    rfl
theorem nodup_front {r : Row} {k : Nat} (h : k < r.length) (nd : r.Nodup) : (moveFront r k).Nodup := by
  unfold moveFront
  have e : r.getD k 0 = r[k] := by simp [List.getD, h]
  rw [e]
  refine List.nodup_cons.mpr ⟨fun hm => ?_, nd.sublist (List.eraseIdx_sublist ..)⟩
  obtain ⟨j, hj, hne, ej⟩ := List.mem_eraseIdx_iff_getElem.mp hm
  have h1 := idx_nodup h nd
  have h2 := idx_nodup hj nd
  rw [ej] at h2
  omega
theorem runs_more : ∀ (j : Nat) (k b : Int), 1 ≤ k → k + j < 255 → wfeed (.runs k b) (List.replicate j b) = ([], .runs (k + j) b)
  | 0, k, b, _, _ => by
    show ([], WSt.runs k b) = _
    simp
  | j + 1, k, b, h1, h2 => by
    rw [List.replicate_succ, wfeed_cs]
    have e : wtake (.runs k b) b = ([], .runs (k + 1) b) := by
      show takeRuns k b b = _
      unfold takeRuns
      rw [if_neg (by omega), if_neg (by omega)]
    rw [e]
    dsimp only
    rw [runs_more j (k + 1) b (by omega) (by omega)]
    have e2 : k + 1 + (j : Int) = k + ((j + 1 : Nat) : Int) := by omega
    rw [e2]
    rfl
theorem runs_full (k b : Int) (j : Nat) (h1 : 1 ≤ k) (h2 : k + j = 255) (h3 : 1 ≤ j) : wfeed (.runs k b) (List.replicate j b) = ([255, b], .runs 0 b) := by
  obtain ⟨i, rfl⟩ : ∃ i, j = i + 1 := ⟨j - 1, by omega⟩
  rw [List.replicate_succ', wfeed_app, runs_more i k b h1 (by omega)]
  dsimp only
  rw [wfeed_one]
  have e : wtake (.runs (k + i) b) b = ([255, b], .runs 0 b) := by
    show takeRuns (k + i) b b = _
    unfold takeRuns
    rw [if_neg (by omega), if_pos (by omega)]
  rw [e]
  rfl
/-- a run behind whatever stood -/
theorem runs_run {wm wb b m lastN lastB : Int} (hm : 1 ≤ m) (hm2 : m ≤ 255) (h1 : 0 < lastN ∧ lastN < 255 → wm = lastN ∧ wb = lastB) (h2 : ¬(0 < lastN ∧ lastN < 255) → wm = 0) (hb : ¬(b = lastB ∧ 0 < lastN ∧ lastN < 255)) :
    ∃ wm' wb', wfeed (.runs wm wb) (List.replicate m.toNat b) = (preR lastN lastB ++ (if m = 255 then [255, b] else []), .runs wm' wb') ∧ (m < 255 → wm' = m ∧ wb' = b) ∧ (m = 255 → wm' = 0) := by
  obtain ⟨j, hj⟩ : ∃ j : Nat, m.toNat = j + 1 := ⟨m.toNat - 1, by omega⟩
  have hmj : m = (j : Int) + 1 := by omega
  rw [hj, List.replicate_succ, wfeed_cs]
  have first : wtake (.runs wm wb) b = (preR lastN lastB, .runs 1 b) := by
    show takeRuns wm wb b = _
    unfold takeRuns preR
    by_cases c : 0 < lastN ∧ lastN < 255
    · obtain ⟨rfl, rfl⟩ := h1 c
      rw [if_pos (show wm > 0 ∧ b ≠ wb from ⟨c.1, fun z => hb ⟨z, c⟩⟩), if_pos c]
    · rw [h2 c, if_neg (by omega), if_neg (by omega), if_neg c]
      rfl
  rw [first]
  dsimp only
  by_cases c : m = 255
  · by_cases hj0 : j = 0
    · omega
    · rw [runs_full 1 b j (by omega) (by omega) (by omega), if_pos c]
      exact ⟨0, b, rfl, fun z => absurd z (by omega), fun _ => rfl⟩
  · rw [runs_more j 1 b (by omega) (by omega), if_neg c]
    exact ⟨1 + (j : Int), b, rfl, fun _ => ⟨by omega, rfl⟩, fun z => absurd z c⟩
theorem osim_take {ws : WSt} {rs rs' : RSt} {ow row : Row} {b : Int} (h : OSim ws rs ow) (hw : WOk ws) (hr : ROk rs) (hb : By b) (ht : rtake rs b = .ok row rs') : ∃ ow', (wfeed ws row).1 ++ ow' = ow ++ [b] ∧ OSim (wfeed ws row).2 rs' ow' := by
  obtain ⟨b0, b1⟩ := id hb
  cases ws with
  | add key at_ =>
    cases rs <;> simp only [OSim] at h
    rename_i key' at'
    obtain ⟨rfl, rfl, rfl⟩ := h
    injection ht with e1 e2
    subst e1 e2
    refine ⟨[], ?_, ?_⟩
    · rw [wfeed_one]
      show [((b - gI key' at') % 256 + gI key' at') % 256] ++ [] = [b]
      have e : ((b - gI key' at') % 256 + gI key' at') % 256 = b := by omega
      rw [e]
      rfl
    · rw [wfeed_one]
      exact ⟨rfl, rfl, rfl⟩
  | front row0 =>
    cases rs <;> simp only [OSim] at h
    rename_i row'
    obtain ⟨rfl, nd, rfl⟩ := h
    injection ht with e1 e2
    subst e1 e2
    obtain ⟨hl, hbr⟩ := hr
    have hk : b.toNat < row'.length := by omega
    have eg : gI row' b = row'[b.toNat] := by
      unfold gI
      simp [List.getD, hk]
    have ei := idx_nodup hk nd
    rw [wfeed_one, eg]
    show ∃ ow', [(row'.idxOf (row'[b.toNat]) : Int)] ++ ow' = [] ++ [b] ∧ OSim (.front (moveFront row' (row'.idxOf (row'[b.toNat])))) (.front (moveFront row' b.toNat)) ow'
    rw [ei]
    refine ⟨[], ?_, rfl, nodup_front hk nd, rfl⟩
    show [((b.toNat : Nat) : Int)] = [b]
    rw [show ((b.toNat : Nat) : Int) = b by omega]
  | esc e =>
    cases rs <;> simp only [OSim] at h
    rename_i e' done m
    obtain ⟨rfl, rfl⟩ := h
    cases m with
    | true =>
      simp only [rtake] at ht
      rw [if_pos trivial] at ht
      rw [if_pos rfl]
      split at ht
      · rename_i h1
        injection ht with e1 e2
        subst e1 e2
        rw [wfeed_one]
        show ∃ ow', escOut e' (e' % 256) ++ ow' = _ ∧ OSim (.esc e') _ ow'
        unfold escOut
        rw [if_pos rfl]
        exact ⟨[], by rw [h1]; rfl, rfl, rfl⟩
      · split at ht
        · rename_i h0 h1
          injection ht with e1 e2
          subst e1 e2
          rw [wfeed_one]
          show ∃ ow', escOut e' ((e' + 1) % 256) ++ ow' = _ ∧ OSim (.esc e') _ ow'
          unfold escOut
          rw [if_neg (by omega), if_pos rfl]
          exact ⟨[], by rw [h1]; rfl, rfl, rfl⟩
        · cases ht
    | false =>
      simp only [rtake] at ht
      rw [if_neg (by decide)] at ht
      rw [if_neg (by decide)]
      split at ht
      · cases ht
      · split at ht
        · rename_i h0 h1
          injection ht with e1 e2
          subst e1 e2
          exact ⟨[(e' + 1) % 256], by rw [h1]; rfl, rfl, rfl⟩
        · rename_i h0 h1
          injection ht with e1 e2
          subst e1 e2
          rw [wfeed_one]
          show ∃ ow', escOut e' b ++ ow' = _ ∧ OSim (.esc e') _ ow'
          unfold escOut
          rw [if_neg h0, if_neg h1]
          exact ⟨[], rfl, rfl, rfl⟩
  | runs wm wb =>
    cases rs <;> simp only [OSim] at h
    rename_i done m lastN lastB
    obtain ⟨rfl, g1, g2⟩ := h
    obtain ⟨⟨k0, k1⟩, k2, k3⟩ := hr
    simp only [rtake] at ht
    by_cases hm : m = 0
    · rw [if_pos hm] at ht
      split at ht
      · cases ht
      · rename_i hb0
        injection ht with e1 e2
        subst e1 e2
        subst hm
        refine ⟨preR lastN lastB ++ [b], ?_, ?_, g1, g2⟩
        · rw [wfeed_nl]
          show [] ++ (preR lastN lastB ++ [b]) = preR lastN lastB ++ [] ++ [b]
          simp
        · unfold lenR
          rw [if_neg hb0]
    · rw [if_neg hm] at ht
      split at ht
      · cases ht
      · rename_i hbl
        injection ht with e1 e2
        subst e1 e2
        obtain ⟨wm', wb', r1, r2, r3⟩ := runs_run (m := m) (b := b) (by omega) (by omega) g1 g2 hbl
        rw [r1]
        dsimp only
        have hl : lenR m = [m] := if_neg hm
        refine ⟨preR m b, ?_, ?_, ?_, ?_⟩
        · rw [hl]
          unfold preR
          by_cases c : m = 255
          · rw [if_pos c, if_neg (show ¬ (0 < m ∧ m < 255) by omega), c]
            simp
          · rw [if_neg c, if_pos (show 0 < m ∧ m < 255 by omega)]
            simp
        · show preR m b = preR m b ++ []
          rw [List.append_nil]
        · exact fun z => r2 z.2
        · exact fun z => r3 (by omega)
  | chunks size held =>
    cases rs <;> simp only [OSim] at h
    rename_i size' done left isLast
    obtain ⟨rfl, h⟩ := h
    obtain ⟨k0, k1, k2, k3⟩ := hw
    simp only [rtake] at ht
    rcases h with ⟨rfl, rfl, rfl, rfl⟩ | ⟨rfl, hl, h1, h2, h3⟩
    · rw [if_neg (by omega)] at ht
      split at ht
      · cases ht
      · rename_i hc
        have hbs : b ≤ size' := by
          have : ¬ b > size' := fun z => hc (Or.inr z)
          omega
        injection ht with e1 e2
        subst e1 e2
        refine ⟨[b], rfl, rfl, Or.inr ⟨by simp, by simp, by simpa using hbs, b0, fun z => ?_⟩⟩
        have : ¬ b < size' := of_decide_eq_false z
        omega
    · by_cases hlf : left > 0
      · rw [if_pos hlf] at ht
        injection ht with e1 e2
        subst e1 e2
        rw [wfeed_one]
        show ∃ ow', (takeChunks size' held b).1 ++ ow' = _ ∧ OSim (takeChunks size' held b).2 _ ow'
        unfold takeChunks
        have hlen : ((held ++ [b]).length : Int) = held.length + 1 := by simp
        by_cases c : ((held ++ [b]).length : Int) = size'
        · rw [if_pos c]
          have hleft : left = 1 := by omega
          subst hleft
          refine ⟨[], ?_, rfl, Or.inl ⟨by omega, ?_, rfl, rfl⟩⟩
          · rw [List.append_nil, hlen]
            rfl
          · rw [hl]
            exact decide_eq_false (by omega)
        · rw [if_neg c]
          refine ⟨((held.length : Int) + left) :: (held ++ [b]), rfl, rfl, Or.inr ⟨?_, ?_, by rw [hlen]; omega, by omega, fun z => ?_⟩⟩
          · rw [hlen, show (held.length : Int) + 1 + (left - 1) = held.length + left by omega]
          · rw [hlen, show (held.length : Int) + 1 + (left - 1) = held.length + left by omega]
            exact hl
          · have hn : ¬ (held.length : Int) + left < size' := by
              intro y
              rw [hl, decide_eq_true y] at z
              cases z
            omega
      · rw [if_neg hlf] at ht
        have hl0 : left = 0 := by omega
        subst hl0
        have hlt : isLast = true := by
          cases isLast with
          | true => rfl
          | false =>
            have := h3 rfl
            omega
        rw [if_pos (Or.inl hlt)] at ht
        cases ht
  | checks size many check =>
    cases rs <;> simp only [OSim] at h
    rename_i size' done check' held
    obtain ⟨rfl, rfl, rfl, rfl⟩ := h
    obtain ⟨k0, k1, k2, k3, k4, k5⟩ := hw
    obtain ⟨r0, r1, r2, r3, r4, r5⟩ := hr
    simp only [rtake] at ht
    by_cases c : ((ow ++ [b]).length : Int) = size' + 2
    · rw [if_pos c] at ht
      split at ht
      · rename_i heq
        injection ht with e1 e2
        subst e1 e2
        have hrl : ((blockRow (ow ++ [b])).length : Int) = size' := by
          unfold blockRow
          rw [List.length_take]
          omega
        have hwf := wck_block size' (blockRow (ow ++ [b])) 0 check' (by omega) (by omega)
        rw [hwf]
        refine ⟨[], ?_, rfl, rfl, rfl, rfl⟩
        rw [List.append_nil, ← heq]
        unfold blockRow blockTail
        exact List.take_append_drop ..
      · cases ht
    · rw [if_neg c] at ht
      injection ht with e1 e2
      subst e1 e2
      exact ⟨ow ++ [b], rfl, rfl, rfl, rfl, rfl⟩
  | signs many value =>
    cases rs <;> simp only [OSim] at h
    rename_i done m v
    obtain ⟨k0, k1, k2⟩ := hw
    obtain ⟨r0, r1, r2⟩ := hr
    simp only [rtake] at ht
    by_cases hbm : b ∈ signsT
    · rw [if_pos hbm] at ht
      have hix := idx_sign hbm
      have hsg := signOf_idx hbm
      generalize hidx : (signsT.idxOf b : Int) = x at *
      have x0 : 0 ≤ x := by omega
      have x1 : x < 64 := by omega
      rcases h with ⟨rfl, rfl, rfl⟩ | ⟨rfl, rfl, rfl⟩ | ⟨rfl, rfl, rfl⟩ | ⟨rfl, rfl, rfl⟩
      · rw [if_pos (by decide)] at ht
        injection ht with e1 e2
        subst e1 e2
        rw [pw0] at r2
        have hv : v = 0 := by omega
        subst hv
        refine ⟨[b], rfl, Or.inr (Or.inl ⟨rfl, rfl, ?_⟩)⟩
        have e : (0 : Int) * 64 + x = x := by omega
        rw [e, hsg]
      · rw [if_neg (by decide), show pow2 (6 - 2) = 16 from rfl] at ht
        injection ht with e1 e2
        subst e1 e2
        rw [pw6] at r2
        rw [pw0] at k2
        have hv : value = 0 := by omega
        subst hv
        have et : wtake (.signs 0 0) ((v * 64 + x) / 16) = ([signOf v], .signs 2 ((v * 64 + x) / 16 % 4)) := by
          show takeSigns 0 0 ((v * 64 + x) / 16) = _
          unfold takeSigns
          rw [if_neg (by decide), show pow2 (0 + 2) = 4 from rfl]
          have e1 : (0 * 256 + (v * 64 + x) / 16) / 4 = v := by omega
          have e2 : (0 * 256 + (v * 64 + x) / 16) % 4 = (v * 64 + x) / 16 % 4 := by omega
          rw [e1, e2]
          rfl
        rw [wfeed_one, et]
        refine ⟨[b], rfl, Or.inr (Or.inr (Or.inl ⟨rfl, rfl, ?_⟩))⟩
        have e : (v * 64 + x) / 16 % 4 * 16 + (v * 64 + x) % 16 = x := by omega
        rw [e, hsg]
      · rw [if_neg (by decide), show pow2 (4 - 2) = 4 from rfl] at ht
        injection ht with e1 e2
        subst e1 e2
        rw [pw4] at r2
        rw [pw2] at k2
        have et : wtake (.signs 2 value) ((v * 64 + x) / 4) = ([signOf (value * 16 + v)], .signs 4 ((v * 64 + x) / 4 % 16)) := by
          show takeSigns 2 value ((v * 64 + x) / 4) = _
          unfold takeSigns
          rw [if_neg (by decide), show pow2 (2 + 2) = 16 from rfl]
          have e1 : (value * 256 + (v * 64 + x) / 4) / 16 = value * 16 + v := by omega
          have e2 : (value * 256 + (v * 64 + x) / 4) % 16 = (v * 64 + x) / 4 % 16 := by omega
          rw [e1, e2]
          rfl
        rw [wfeed_one, et]
        refine ⟨[b], rfl, Or.inr (Or.inr (Or.inr ⟨rfl, rfl, ?_⟩))⟩
        have e : (v * 64 + x) / 4 % 16 * 4 + (v * 64 + x) % 4 = x := by omega
        rw [e, hsg]
      · rw [if_neg (by decide), show pow2 (2 - 2) = 1 from rfl] at ht
        injection ht with e1 e2
        subst e1 e2
        rw [pw2] at r2
        rw [pw4] at k2
        have et : wtake (.signs 4 value) ((v * 64 + x) / 1) = ([signOf (value * 4 + v), signOf x], .signs 0 0) := by
          show takeSigns 4 value ((v * 64 + x) / 1) = _
          unfold takeSigns
          rw [if_pos (by decide), show pow2 (4 + 2) = 64 from rfl, show pow2 (4 + 2 - 6) = 1 from rfl]
          have e1 : (value * 256 + (v * 64 + x) / 1) / 64 = value * 4 + v := by omega
          have e2 : (value * 256 + (v * 64 + x) / 1) % 64 / 1 = x := by omega
          have e3 : (value * 256 + (v * 64 + x) / 1) % 64 % 1 = 0 := by omega
          rw [e1, e2, e3]
          rfl
        rw [wfeed_one, et]
        refine ⟨[], ?_, Or.inl ⟨rfl, rfl, rfl⟩⟩
        rw [hsg]
        rfl
    · rw [if_neg hbm] at ht
      cases ht
theorem osim_end {ws : WSt} {rs : RSt} {ow row : Row} (h : OSim ws rs ow) (hw : WOk ws) (hr : ROk rs) (ht : rend rs = .ok row) : wfin ws row = ow := by
  cases ws with
  | add key at_ =>
    cases rs <;> simp only [OSim] at h
    obtain ⟨rfl, rfl, rfl⟩ := h
    injection ht with e1
    subst e1
    rfl
  | front row0 =>
    cases rs <;> simp only [OSim] at h
    obtain ⟨rfl, nd, rfl⟩ := h
    injection ht with e1
    subst e1
    rfl
  | esc e =>
    cases rs <;> simp only [OSim] at h
    rename_i e' done m
    obtain ⟨rfl, rfl⟩ := h
    cases m with
    | true => cases ht
    | false =>
      injection ht with e1
      subst e1
      rfl
  | runs wm wb =>
    cases rs <;> simp only [OSim] at h
    rename_i done m lastN lastB
    obtain ⟨rfl, g1, g2⟩ := h
    obtain ⟨⟨k0, k1⟩, k2, k3⟩ := hr
    simp only [rend] at ht
    split at ht
    · cases ht
    · injection ht with e1
      subst e1
      have hm : m = 0 := by omega
      subst hm
      show [] ++ (if wm = 0 then [] else [wm, wb]) = preR lastN lastB ++ []
      rw [List.append_nil, List.nil_append]
      unfold preR
      by_cases c : 0 < lastN ∧ lastN < 255
      · obtain ⟨rfl, rfl⟩ := g1 c
        rw [if_neg (by omega), if_pos c]
      · rw [g2 c, if_pos rfl, if_neg c]
  | chunks size held =>
    cases rs <;> simp only [OSim] at h
    rename_i size' done left isLast
    obtain ⟨rfl, h⟩ := h
    simp only [rend] at ht
    split at ht
    · cases ht
    · rename_i hc
      injection ht with e1
      subst e1
      have hl : ¬ left > 0 := fun z => hc (Or.inl z)
      have ht2 : isLast = true := by
        cases isLast with
        | true => rfl
        | false => exact absurd (Or.inr (by decide)) hc
      rcases h with ⟨rfl, h2, _⟩ | ⟨rfl, h2, h3, h4, h5⟩
      · rw [ht2] at h2
        cases h2
      · show [] ++ ((held.length : Int) :: held) = _
        have : left = 0 := by omega
        rw [this, Int.add_zero]
        rfl
  | checks size many check =>
    cases rs <;> simp only [OSim] at h
    rename_i size' done check' held
    obtain ⟨rfl, rfl, rfl, rfl⟩ := h
    obtain ⟨r0, r1, r2, r3, r4, r5⟩ := hr
    simp only [rend] at ht
    split at ht
    · cases ht
    · rename_i hlen
      split at ht
      · rename_i heq
        injection ht with e1
        subst e1
        have hrl : ((blockRow ow).length : Int) = (ow.length : Int) - 2 := by
          unfold blockRow
          rw [List.length_take]
          omega
        rw [wck_short size' (blockRow ow) 0 check' (by omega), ← heq]
        unfold blockRow blockTail
        exact List.take_append_drop ..
      · cases ht
  | signs many value =>
    cases rs <;> simp only [OSim] at h
    rename_i done m v
    obtain ⟨k0, k1, k2⟩ := hw
    obtain ⟨r0, r1, r2⟩ := hr
    simp only [rend] at ht
    split at ht
    · cases ht
    · split at ht
      · cases ht
      · rename_i hm hv
        injection ht with e1
        subst e1
        have hv0 : v = 0 := by omega
        subst hv0
        rcases h with ⟨rfl, rfl, rfl⟩ | ⟨rfl, rfl, rfl⟩ | ⟨rfl, rfl, rfl⟩ | ⟨rfl, rfl, rfl⟩
        · rfl
        · exact absurd rfl hm
        · show [] ++ (if (2 : Int) = 0 then [] else [signOf (value * pow2 (6 - 2))]) = _
          rw [if_neg (by decide), show pow2 (6 - 2) = 16 from rfl]
          show [signOf (value * 16)] = [signOf (value * 16 + 0)]
          rw [Int.add_zero]
        · show [] ++ (if (4 : Int) = 0 then [] else [signOf (value * pow2 (6 - 4))]) = _
          rw [if_neg (by decide), show pow2 (6 - 4) = 4 from rfl]
          show [signOf (value * 4)] = [signOf (value * 4 + 0)]
          rw [Int.add_zero]
theorem osim_feed : ∀ {r : Row} {ws : WSt} {rs rs' : RSt} {ow o : Row}, OSim ws rs ow → WOk ws → ROk rs → Bys r → rfeed rs r = (o, rs', none) → ∃ ow', (wfeed ws o).1 ++ ow' = ow ++ r ∧ OSim (wfeed ws o).2 rs' ow' ∧ ROk rs' ∧ Bys o
  | [], ws, rs, rs', ow, o, h, hw, hr, hb, hf => by
    have h1 : (([], rs, none) : Row × RSt × Option Int) = (o, rs', none) := hf
    injection h1 with e1 e2
    injection e2 with e2 _
    subst e1 e2
    exact ⟨ow, by simp [wfeed_nl], h, hr, bys_nil⟩
  | b :: r, ws, rs, rs', ow, o, h, hw, hr, hb, hf => by
    rw [rfeed_cons] at hf
    cases ht : rtake rs b with
    | wrong p =>
      rw [ht] at hf
      injection hf with _ e
      injection e with _ e
      cases e
    | ok row s1 =>
      rw [ht] at hf
      dsimp only at hf
      obtain ⟨ow1, a1, a2⟩ := osim_take h hw hr hb.head ht
      obtain ⟨k1, k2⟩ := rtake_ok hr hb.head ht
      generalize hq : rfeed s1 r = qq at hf
      obtain ⟨o2, s2, f2⟩ := qq
      injection hf with e1 e2
      injection e2 with e2 e3
      subst e1 e2 e3
      obtain ⟨ow2, c1, c2, c3, c4⟩ := osim_feed a2 (wfeed_ok hw k2).1 k1 hb.tail hq
      refine ⟨ow2, ?_, ?_, c3, bys_app k2 c4⟩
      · rw [wfeed_app]
        dsimp only
        rw [List.append_assoc, c1, ← List.append_assoc, a1, List.append_assoc]
        rfl
      · rw [wfeed_app]
        exact c2
theorem range_nodup : ((List.range 256).map Int.ofNat).Nodup := by decide +kernel
theorem osim_new {ly : Lay} (h : ly.Ok) : OSim (newW ly) (newR ly) [] := by
  cases ly with
  | add key => exact ⟨rfl, rfl, rfl⟩
  | front =>
    refine ⟨rfl, ?_, rfl⟩
    show range256.Nodup
    unfold range256
    exact range_nodup
  | esc b => exact ⟨rfl, rfl⟩
  | runs => exact ⟨rfl, fun z => absurd z.1 (by decide), fun _ => rfl⟩
  | chunks n => exact ⟨rfl, Or.inl ⟨rfl, rfl, rfl, rfl⟩⟩
  | checks n => exact ⟨rfl, rfl, rfl, rfl⟩
  | signs => exact Or.inl ⟨rfl, rfl, rfl⟩
theorem layer_form {ly : Lay} (h : ly.Ok) {r o : Row} (hb : Bys r) (hf : rfin (newR ly) r = (o, none)) : wfin (newW ly) o = r ∧ Bys o := by
  unfold rfin at hf
  generalize hq : rfeed (newR ly) r = qq at hf
  obtain ⟨o1, s1, f1⟩ := qq
  cases f1 with
  | some p => cases hf
  | none =>
    dsimp only at hf
    obtain ⟨ow, a1, a2, a3, a4⟩ := osim_feed (osim_new h) (newW_ok h) (newR_ok h) hb hq
    cases he : rend s1 with
    | wrong p => rw [he] at hf; cases hf
    | cut => rw [he] at hf; cases hf
    | ok row =>
      rw [he] at hf
      injection hf with e1 _
      subst e1
      have h2 := osim_end a2 (wfeed_ok (newW_ok h) a4).1 a3 he
      rw [wfin_app, h2, a1]
      exact ⟨rfl, bys_app a4 (rend_ok a3 he)⟩
/-! sizes of what is read -/
def wt : Lay → Nat
  | .runs => 255
  | _ => 1
def wts : List Lay → Nat
  | [] => 1
  | ly :: r => wt ly * wts r
theorem wts_snoc : ∀ (l : List Lay) (x : Lay), wts (l ++ [x]) = wts l * wt x
  | [], x => by simp [wts]
  | y :: l, x => by
    show wt y * wts (l ++ [x]) = wt y * wts l * wt x
    rw [wts_snoc l x, Nat.mul_assoc]
theorem wt_pos (x : Lay) : 1 ≤ wt x := by cases x <;> simp [wt]
def rwt : RSt → Nat
  | .runs _ _ _ _ => 255
  | _ => 1
def rpot : RSt → Nat
  | .checks _ _ _ held => held.length
  | _ => 0
theorem rtake_len {s s' : RSt} {b : Int} {row : Row} (hs : ROk s) (h : rtake s b = .ok row s') : row.length + rpot s' ≤ rpot s + rwt s ∧ rwt s' = rwt s := by
  cases s with
  | add key at_ => injection h with e1 e2; subst e1 e2; exact ⟨by simp [rpot, rwt], rfl⟩
  | front r => injection h with e1 e2; subst e1 e2; exact ⟨by simp [rpot, rwt], rfl⟩
  | esc e done m =>
    simp only [rtake] at h
    split at h
    · split at h
      · injection h with e1 e2; subst e1 e2; exact ⟨by simp [rpot, rwt], rfl⟩
      · split at h
        · injection h with e1 e2; subst e1 e2; exact ⟨by simp [rpot, rwt], rfl⟩
        · cases h
    · split at h
      · cases h
      · split at h
        · injection h with e1 e2; subst e1 e2; exact ⟨by simp [rpot, rwt], rfl⟩
        · injection h with e1 e2; subst e1 e2; exact ⟨by simp [rpot, rwt], rfl⟩
  | runs done many lastN lastB =>
    obtain ⟨⟨k0, k1⟩, k2, k3⟩ := hs
    simp only [rtake] at h
    split at h
    · split at h
      · cases h
      · injection h with e1 e2; subst e1 e2; exact ⟨by simp [rpot, rwt], rfl⟩
    · split at h
      · cases h
      · injection h with e1 e2; subst e1 e2; exact ⟨by simp [rpot, rwt]; omega, rfl⟩
  | chunks size done left isLast =>
    simp only [rtake] at h
    split at h
    · injection h with e1 e2; subst e1 e2; exact ⟨by simp [rpot, rwt], rfl⟩
    · split at h
      · cases h
      · injection h with e1 e2; subst e1 e2; exact ⟨by simp [rpot, rwt], rfl⟩
  | checks size done check held =>
    simp only [rtake] at h
    split at h
    · split at h
      · injection h with e1 e2
        subst e1 e2
        refine ⟨?_, rfl⟩
        show (blockRow (held ++ [b])).length + 0 ≤ held.length + 1
        unfold blockRow
        rw [List.length_take, List.length_append]
        simp
        omega
      · cases h
    · injection h with e1 e2; subst e1 e2; exact ⟨by simp [rpot, rwt], rfl⟩
  | signs done many value =>
    simp only [rtake] at h
    split at h
    · split at h
      · injection h with e1 e2; subst e1 e2; exact ⟨by simp [rpot, rwt], rfl⟩
      · injection h with e1 e2; subst e1 e2; exact ⟨by simp [rpot, rwt], rfl⟩
    · cases h
theorem rend_len {s : RSt} {row : Row} (h : rend s = .ok row) : row.length ≤ rpot s := by
  cases s <;> simp only [rend] at h
  · injection h with e; subst e; simp
  · injection h with e; subst e; simp
  · split at h
    · cases h
    · injection h with e; subst e; simp
  · split at h
    · cases h
    · injection h with e; subst e; simp
  · split at h
    · cases h
    · injection h with e; subst e; simp
  · split at h
    · cases h
    · split at h
      · injection h with e
        subst e
        unfold blockRow
        rw [List.length_take]
        show _ ≤ List.length _
        omega
      · cases h
  · split at h
    · cases h
    · split at h
      · cases h
      · injection h with e; subst e; simp
theorem rfeed_len : ∀ (r : Row) (s : RSt), ROk s → Bys r → (rfeed s r).1.length + rpot (rfeed s r).2.1 ≤ rpot s + rwt s * r.length ∧ ROk (rfeed s r).2.1 ∧ Bys (rfeed s r).1
  | [], s, hs, _ => ⟨by simp [rfeed], hs, bys_nil⟩
  | b :: r, s, hs, hb => by
    rw [rfeed_cons]
    cases ht : rtake s b with
    | wrong p => exact ⟨by simp, hs, bys_nil⟩
    | ok o s' =>
      obtain ⟨h1, h2⟩ := rtake_len hs ht
      obtain ⟨k1, k2⟩ := rtake_ok hs hb.head ht
      obtain ⟨i1, i2, i3⟩ := rfeed_len r s' k1 hb.tail
      refine ⟨?_, i2, bys_app k2 i3⟩
      rw [h2] at i1
      dsimp only
      rw [List.length_append, List.length_cons, Nat.mul_add, Nat.mul_one]
      omega
theorem rfin_len {s : RSt} {r : Row} (hs : ROk s) (hb : Bys r) : (rfin s r).1.length ≤ rpot s + rwt s * r.length ∧ Bys (rfin s r).1 := by
  obtain ⟨h1, h2, h3⟩ := rfeed_len r s hs hb
  unfold rfin
  generalize rfeed s r = q at *
  obtain ⟨o, s', f⟩ := q
  dsimp only at h1 h2 h3
  cases f with
  | some p => exact ⟨by dsimp only; omega, h3⟩
  | none =>
    dsimp only
    cases he : rend s' with
    | wrong p => exact ⟨by dsimp only; omega, h3⟩
    | cut => exact ⟨by dsimp only; omega, h3⟩
    | ok row =>
      have h4 := rend_len he
      exact ⟨by dsimp only; rw [List.length_append]; omega, bys_app h3 (rend_ok h2 he)⟩
theorem new_pot (ly : Lay) : rpot (newR ly) = 0 ∧ rwt (newR ly) = wt ly := by cases ly <;> exact ⟨rfl, rfl⟩
/-- a row through fresh readers -/
theorem rseq_size (lays : List Lay) : (∀ ly, ly ∈ lays → ly.Ok) → ∀ r, Bys r → (rseq (rone lays.length) (lays.reverse.map newR) r).1.length ≤ wts lays * r.length ∧ Bys (rseq (rone lays.length) (lays.reverse.map newR) r).1 := by
  refine snoc_ind (P := fun lays => (∀ ly, ly ∈ lays → ly.Ok) → ∀ r, Bys r → (rseq (rone lays.length) (lays.reverse.map newR) r).1.length ≤ wts lays * r.length ∧ Bys (rseq (rone lays.length) (lays.reverse.map newR) r).1) ?_ (fun l x ih h r hb => ?_) lays
  · intro _ r hb
    have h : ∀ r : Row, rseq (rone 0) [] r = (r, [], none) := by
      intro r
      induction r with
      | nil => rfl
      | cons b r ih =>
        rw [rseq_cons]
        show ([b] ++ (rseq (rone 0) [] r).1, (rseq (rone 0) [] r).2) = _
        rw [ih]
        rfl
    show (rseq (rone 0) [] r).1.length ≤ 1 * r.length ∧ Bys (rseq (rone 0) [] r).1
    rw [h]
    exact ⟨by simp, hb⟩
  · have hx : x.Ok := h x (List.mem_append_right _ (List.mem_singleton.mpr rfl))
    have hl : ∀ ly, ly ∈ l → ly.Ok := fun ly hly => h ly (List.mem_append_left _ hly)
    have e1 : (l ++ [x]).length = l.length + 1 := by simp
    have e2 : ((l ++ [x]).reverse.map newR) = newR x :: l.reverse.map newR := by rw [List.reverse_append]; rfl
    rw [e1, e2, (rseq_layer l.length r (newR x) (l.reverse.map newR)).1, wts_snoc]
    obtain ⟨h1, h2, h3⟩ := rfeed_len r (newR x) (newR_ok hx) hb
    obtain ⟨i1, i2⟩ := ih hl _ h3
    refine ⟨Nat.le_trans i1 ?_, i2⟩
    rw [(new_pot x).1, (new_pot x).2] at h1
    rw [Nat.mul_assoc]
    exact Nat.mul_le_mul_left _ (by omega)
theorem readAll_size (lays : List Lay) : (∀ ly, ly ∈ lays → ly.Ok) → ∀ r, Bys r → (readAll lays r).1.length ≤ wts lays * r.length ∧ Bys (readAll lays r).1 := by
  refine snoc_ind (P := fun lays => (∀ ly, ly ∈ lays → ly.Ok) → ∀ r, Bys r → (readAll lays r).1.length ≤ wts lays * r.length ∧ Bys (readAll lays r).1) ?_ (fun l x ih h r hb => ?_) lays
  · intro _ r hb
    rw [readAll_nil]
    exact ⟨by simp [wts], hb⟩
  · have hx : x.Ok := h x (List.mem_append_right _ (List.mem_singleton.mpr rfl))
    have hl : ∀ ly, ly ∈ l → ly.Ok := fun ly hly => h ly (List.mem_append_left _ hly)
    obtain ⟨h1, h2⟩ := rfin_len (newR_ok hx) hb
    rw [(new_pot x).1, (new_pot x).2] at h1
    rw [readAll_snoc, wts_snoc]
    generalize rfin (newR x) r = F at *
    obtain ⟨o, f⟩ := F
    have hm : wts l * o.length ≤ wts l * wt x * r.length := by
      rw [Nat.mul_assoc]
      exact Nat.mul_le_mul_left _ (by dsimp only at h1; omega)
    cases f with
    | none =>
      obtain ⟨i1, i2⟩ := ih hl o h2
      exact ⟨Nat.le_trans i1 hm, i2⟩
    | some f =>
      dsimp only
      obtain ⟨i1, i2⟩ := rseq_size l hl o h2
      generalize rseq (rone l.length) (l.reverse.map newR) o = G at *
      obtain ⟨g1, g2, g3⟩ := G
      cases g3 with
      | some x => exact ⟨Nat.le_trans i1 hm, i2⟩
      | none => exact ⟨Nat.le_trans i1 hm, i2⟩
/-- one form; and the sizes of the streams between -/
theorem one_form (lays : List Lay) : (∀ ly, ly ∈ lays → ly.Ok) → ∀ r row, Bys r → readAll lays r = (row, none) → written lays row = r ∧ ∀ k, (written (lays.take k) row).length ≤ wts lays * r.length := by
  refine snoc_ind (P := fun lays => (∀ ly, ly ∈ lays → ly.Ok) → ∀ r row, Bys r → readAll lays r = (row, none) → written lays row = r ∧ ∀ k, (written (lays.take k) row).length ≤ wts lays * r.length) ?_ (fun l x ih h r row hb hr => ?_) lays
  · intro _ r row hb h
    rw [readAll_nil] at h
    injection h with h _
    subst h
    refine ⟨written_nil r, fun k => ?_⟩
    rw [List.take_nil, written_nil]
    simp [wts]
  · have hx : x.Ok := h x (List.mem_append_right _ (List.mem_singleton.mpr rfl))
    have hl : ∀ ly, ly ∈ l → ly.Ok := fun ly hly => h ly (List.mem_append_left _ hly)
    have hsz := rfin_len (newR_ok hx) hb
    rw [readAll_snoc] at hr
    generalize hF : rfin (newR x) r = F at hr hsz
    obtain ⟨o, f⟩ := F
    cases f with
    | some f =>
      dsimp only at hr
      generalize rseq (rone l.length) (l.reverse.map newR) o = G at hr
      obtain ⟨g1, g2, g3⟩ := G
      cases g3 with
      | some x => cases hr
      | none => cases hr
    | none =>
      dsimp only at hr hsz
      obtain ⟨f1, f2⟩ := layer_form hx hb hF
      obtain ⟨i1, i2⟩ := ih hl o row f2 hr
      have hw : written (l ++ [x]) row = r := by rw [written_snoc, i1, f1]
      refine ⟨hw, fun k => ?_⟩
      rw [wts_snoc]
      have hm : wts l * o.length ≤ wts l * wt x * r.length := by
        rw [Nat.mul_assoc]
        refine Nat.mul_le_mul_left _ ?_
        have := hsz.1
        rw [(new_pot x).1, (new_pot x).2] at this
        omega
      by_cases hk : k ≤ l.length
      · rw [List.take_append_of_le_length hk]
        exact Nat.le_trans (i2 k) hm
      · rw [List.take_of_length_le (by rw [List.length_append, List.length_singleton]; omega), hw]
        have hp : 1 ≤ wts l * wt x := by
          rw [← wts_snoc]
          have key : ∀ l : List Lay, 1 ≤ wts l := by
            intro l
            induction l with
            | nil => exact Nat.le_refl _
            | cons y l ih => exact Nat.mul_le_mul (wt_pos y) ih
          exact key _
        exact Nat.le_mul_of_pos_left _ hp
theorem wfits_of : ∀ (ss : List WSt) (r : Row), (∀ k, (wthru (ss.take k) r).1.length ≤ 16777216) → WFits ss r
  | [], r, h => h 0
  | s :: ss, r, h => ⟨h 0, wfits_of ss _ fun k => h (k + 1)⟩
/-- what was read may be written again -/
theorem form_fits {lays : List Lay} {r row : Row} (oks : ∀ ly, ly ∈ lays → ly.Ok) (h8 : lays.length ≤ 8) (hb : Bys r) (hr : readAll lays r = (row, none)) (hz : wts lays * r.length ≤ 16777216) :
    Bys row ∧ row.length ≤ 16777216 ∧ WFits (lays.map newW) row ∧ WEndFits lays.length (wthru (lays.map newW) row).2 ∧ written lays row = r := by
  obtain ⟨h1, h2⟩ := one_form lays oks r row hb hr
  have h3 := readAll_size lays oks r hb
  rw [hr] at h3
  have hk := newW_oks oks
  have ⟨k2, _, _⟩ := wthru_ok (ss := lays.map newW) (r := row) hk h3.2
  refine ⟨h3.2, Nat.le_trans h3.1 hz, wfits_of _ _ fun k => ?_, (wend_fits lays.length _ k2 (by rw [wthru_len, List.length_map]) h8).1, h1⟩
  have := h2 k
  rw [written_split, List.length_append] at this
  rw [← List.map_take]
  omega
end Flow

/-! plain: sizes of what is told, times' lengths; how far a row of faults is data -/
namespace Flow
theorem wt_le (x : Lay) : wt x ≤ 255 := by cases x <;> simp [wt]
theorem lstep_size (j : Nat) {ly : Lay} (ok : ly.Ok) {o : Row} (hb : Bys o) (fo : Option Fault) : (lstep j ly (o, fo)).1.length ≤ 255 * o.length ∧ Bys (lstep j ly (o, fo)).1 := by
  obtain ⟨p1, p2⟩ := new_pot ly
  have hw := Nat.mul_le_mul_right o.length (wt_le ly)
  cases fo with
  | none =>
    obtain ⟨h1, h2⟩ := rfin_len (newR_ok ok) hb
    rw [p1, p2] at h1
    exact ⟨by show (rfin (newR ly) o).1.length ≤ _; omega, h2⟩
  | some x =>
    obtain ⟨h1, _, h2⟩ := rfeed_len o (newR ly) (newR_ok ok) hb
    rw [p1, p2] at h1
    exact ⟨by show (rfeed (newR ly) o).1.length ≤ _; omega, h2⟩
theorem own_size {ly : Lay} (ok : ly.Ok) {o : Row} (hb : Bys o) : ((own (newR ly) o).1.flatten).length ≤ 255 * o.length := by
  have h := (lstep_size 0 ok hb none).1
  have e := own_fin (newR ly) o
  have e2 : (lstep 0 ly (o, none)).1 = (rfin (newR ly) o).1 := rfl
  rw [e2, e] at h
  exact h
theorem down_next {lays : List Lay} {i : Nat} (hi : i < lays.length) (x : Row × Option Fault) : down (lays.reverse.drop i) x = down (lays.reverse.drop (i + 1)) (lstep (lays.length - 1 - i) (lays.getD (lays.length - 1 - i) .front) x) := by
  have hl : i < lays.reverse.length := by rw [List.length_reverse]; exact hi
  rw [List.drop_eq_getElem_cons hl, List.getElem_reverse]
  show down (lays.reverse.drop (i + 1)) (lstep (lays.reverse.drop (i + 1)).length _ x) = _
  rw [List.length_drop, List.length_reverse, show lays.length - (i + 1) = lays.length - 1 - i by omega]
  have hk : lays.length - 1 - i < lays.length := by omega
  have e : lays.getD (lays.length - 1 - i) .front = lays[lays.length - 1 - i] := by simp [List.getD, List.getElem?_eq_getElem hk]
  rw [e]
theorem down_end (lays : List Lay) (x : Row × Option Fault) : down (lays.reverse.drop lays.length) x = x := by
  rw [List.drop_eq_nil_of_le (by rw [List.length_reverse]; exact Nat.le_refl _)]
  rfl
theorem newOf_len (rows times : List Row) {m : Nat} (h : m ≤ rows.length) : (newOf rows times m).length ≤ rows.flatten.length := by
  have e : ((newOf rows times m).map (·.1)).length = (rows.take m).flatten.length := by rw [newOf_fst rows times m h]
  rw [List.length_map] at e
  rw [e]
  have e2 : rows.flatten = (rows.take m).flatten ++ (rows.drop m).flatten := by rw [← List.flatten_append, List.take_append_drop]
  rw [e2, List.length_append]
  omega
theorem block_len (r tm : Row) : (blockOf r tm).length = r.length := by
  unfold blockOf
  rw [List.length_map, List.length_range]
def mk (e : Bool) (n m : Nat) : Nat := if e = true then m else min m n
theorem mk_yes {e : Bool} {n m : Nat} (h : (decide (m < n) || e) = true) : mk e n m = m ∧ mk e n (m + 1) = m + 1 := by
  unfold mk
  cases e with
  | true => exact ⟨rfl, rfl⟩
  | false =>
    rw [Bool.or_false, decide_eq_true_eq] at h
    exact ⟨Nat.min_eq_left (by omega), Nat.min_eq_left (by omega)⟩
theorem mk_no {e : Bool} {n m : Nat} (h : (decide (m < n) || e) = false) : mk e n (m + 1) = mk e n m := by
  unfold mk
  cases e with
  | true =>
    rw [Bool.or_true] at h
    cases h
  | false =>
    rw [Bool.or_false, decide_eq_false_iff_not] at h
    show min (m + 1) n = min m n
    rw [Nat.min_eq_right (by omega), Nat.min_eq_right (by omega)]
theorem mk_of (rows : List Row) (told : TRow) (faults : List (Row × Fault)) : mk faults.isEmpty told.length rows.length = mOf rows told faults := rfl
theorem mk_zero (e : Bool) (n : Nat) : mk e n 0 = 0 := by
  unfold mk
  cases e with
  | true => rfl
  | false =>
    show min 0 n = 0
    exact Nat.zero_min n
theorem ahead_ne_nil {a b : Row} (h : Ahead a b) : a ≠ [] := fun z => by
  rw [z] at h
  simp [Ahead] at h
end Flow

/-! plain, k14: what a spoilt stream tells has a size that a list may have -/
namespace Flow
/-! lengths of one layer's stream -/
theorem wfin_len3 (ly : Lay) (r : Row) : (wfin (newW ly) r).length ≤ 3 * r.length + 2 := by
  have h1 := wfeed_len (newW ly) r
  have h2 := wend_len (wfeed (newW ly) r).2
  have h3 : pot (newW ly) = 0 := by cases ly <;> rfl
  unfold wfin
  rw [List.length_append]
  omega
def rsl (many : Int) : Nat := if many = 0 then 0 else 2
theorem runs_len2 : ∀ (r : Row) (many byte : Int), 0 ≤ many → (wfin (.runs many byte) r).length ≤ rsl many + 2 * r.length
  | [], many, byte, h => by
    show ([] ++ (if many = 0 then [] else [many, byte])).length ≤ _
    unfold rsl
    split <;> simp
  | b :: r, many, byte, h => by
    have e : wfin (.runs many byte) (b :: r) = (wtake (.runs many byte) b).1 ++ wfin (wtake (.runs many byte) b).2 r := by
      unfold wfin
      rw [wfeed_cs]
      dsimp only
      rw [List.append_assoc]
    rw [e, List.length_append, List.length_cons]
    show (takeRuns many byte b).1.length + (wfin (takeRuns many byte b).2 r).length ≤ _
    unfold takeRuns
    split
    · rename_i h1
      have ih := runs_len2 r 1 b (by decide)
      have e1 : rsl 1 = 2 := rfl
      have e2 : rsl many = 2 := if_neg (by omega)
      rw [e1] at ih
      rw [e2]
      dsimp only
      simp only [List.length_cons, List.length_nil]
      omega
    · split
      · have ih := runs_len2 r 0 b (by decide)
        have e1 : rsl 0 = 0 := rfl
        rw [e1] at ih
        have e2 : rsl many = 2 := if_neg (by omega)
        rw [e2]
        dsimp only
        simp only [List.length_cons, List.length_nil]
        omega
      · have ih := runs_len2 r (many + 1) b (by omega)
        have e1 : rsl (many + 1) = 2 := if_neg (by omega)
        rw [e1] at ih
        dsimp only
        simp only [List.length_nil]
        omega
/-! great bytes -/
def bigc (r : Row) : Nat := r.countP fun x => decide (64 < x)
theorem bigc_nil : bigc [] = 0 := rfl
theorem bigc_cons (x : Int) (r : Row) : bigc (x :: r) = (if 64 < x then 1 else 0) + bigc r := by
  unfold bigc
  rw [List.countP_cons]
  by_cases h : 64 < x
  · simp [h]; omega
  · simp [h]
theorem bigc_app (x y : Row) : bigc (x ++ y) = bigc x + bigc y := List.countP_append ..
theorem bigc_take (r : Row) (n : Nat) : bigc (r.take n) ≤ bigc r := (List.take_sublist n r).countP_le
theorem bigc_drop (r : Row) (n : Nat) : bigc (r.drop n) ≤ bigc r := (List.drop_sublist n r).countP_le
theorem bigc_split (r : Row) (n : Nat) : bigc (r.take n) + bigc (r.drop n) = bigc r := by
  rw [← bigc_app, List.take_append_drop]
theorem bigc_one (x : Int) : bigc [x] ≤ 1 := by
  rw [bigc_cons, bigc_nil]
  split <;> omega
def sb (many byte : Int) : Nat := if 0 < many ∧ 64 < byte then 1 else 0
theorem pair_big {many byte : Int} (h0 : 0 < many) (h1 : many ≤ 64) : bigc [many, byte] = sb many byte := by
  rw [bigc_cons, bigc_cons, bigc_nil]
  unfold sb
  by_cases h : 64 < byte
  · rw [if_neg (by omega), if_pos h, if_pos ⟨h0, h⟩]
  · rw [if_neg (by omega), if_neg h, if_neg (by omega)]
theorem runs_big : ∀ (r : Row) (many byte : Int), 0 ≤ many → many + r.length ≤ 64 → bigc (wfin (.runs many byte) r) ≤ bigc r + sb many byte
  | [], many, byte, h0, h1 => by
    show bigc ([] ++ (if many = 0 then [] else [many, byte])) ≤ _
    rw [List.nil_append]
    split
    · rw [bigc_nil]; omega
    · rw [pair_big (by omega) (by simpa using h1), bigc_nil]; omega
  | b :: r, many, byte, h0, h1 => by
    rw [List.length_cons] at h1
    have e : wfin (.runs many byte) (b :: r) = (wtake (.runs many byte) b).1 ++ wfin (wtake (.runs many byte) b).2 r := by
      unfold wfin
      rw [wfeed_cs]
      dsimp only
      rw [List.append_assoc]
    rw [e, bigc_app, bigc_cons]
    show bigc (takeRuns many byte b).1 + bigc (wfin (takeRuns many byte b).2 r) ≤ _
    unfold takeRuns
    split
    · rename_i h2
      have ih := runs_big r 1 b (by decide) (by omega)
      have e1 : sb 1 b = (if 64 < b then 1 else 0) := by
        unfold sb
        by_cases c : 64 < b
        · rw [if_pos ⟨by decide, c⟩, if_pos c]
        · rw [if_neg (by omega), if_neg c]
      dsimp only
      rw [pair_big h2.1 (by omega)]
      rw [e1] at ih
      omega
    · rename_i h2
      split
      · omega
      · have ih := runs_big r (many + 1) b (by omega) (by omega)
        have e1 : sb (many + 1) b = (if 64 < b then 1 else 0) := by
          unfold sb
          by_cases c : 64 < b
          · rw [if_pos ⟨by omega, c⟩, if_pos c]
          · rw [if_neg (by omega), if_neg c]
        dsimp only
        rw [bigc_nil]
        rw [e1] at ih
        omega
theorem flatR_cons (n : Nat) (b : Int) (pcs : List (Nat × Int)) : flatR ((n, b) :: pcs) = List.replicate n b ++ flatR pcs := rfl
theorem runs_pcs : ∀ (pcs : List (Nat × Int)) (many byte : Int), 0 ≤ many → many + (flatR pcs).length ≤ 64 → bigc (wfin (.runs many byte) (flatR pcs)) ≤ pcs.length + (if many = 0 then 0 else 1)
  | [], many, byte, h0, h1 => by
    show bigc ([] ++ (if many = 0 then [] else [many, byte])) ≤ _
    have h1' : many ≤ 64 := by simpa [flatR] using h1
    rw [List.nil_append]
    split
    · rw [bigc_nil]; omega
    · rw [pair_big (by omega) h1']
      unfold sb
      split <;> simp
  | (n, b) :: pcs, many, byte, h0, h1 => by
    rw [flatR_cons] at h1 ⊢
    rw [List.length_append, List.length_replicate] at h1
    rw [List.length_cons]
    cases n with
    | zero =>
      have ih := runs_pcs pcs many byte h0 (by omega)
      simp only [List.replicate_zero, List.nil_append]
      omega
    | succ n =>
      rw [wfin_app, List.replicate_succ, wfeed_cs, bigc_app]
      dsimp only
      show bigc ((takeRuns many byte b).1 ++ (wfeed (takeRuns many byte b).2 (List.replicate n b)).1) + bigc (wfin (wfeed (takeRuns many byte b).2 (List.replicate n b)).2 (flatR pcs)) ≤ _
      unfold takeRuns
      split
      · rename_i h2
        dsimp only
        rw [runs_more n 1 b (by decide) (by omega)]
        dsimp only
        have ih := runs_pcs pcs (1 + n) b (by omega) (by omega)
        rw [if_neg (by omega)] at ih
        rw [List.append_nil, pair_big h2.1 (by omega), if_neg (by omega)]
        have : sb many byte ≤ 1 := by unfold sb; split <;> omega
        omega
      · split
        · omega
        · dsimp only
          rw [runs_more n (many + 1) b (by omega) (by omega)]
          dsimp only
          have ih := runs_pcs pcs (many + 1 + n) b (by omega) (by omega)
          rw [if_neg (by omega)] at ih
          rw [List.append_nil, bigc_nil]
          omega
/-! the reader of runs, pair by pair -/
def rpairs : Int → Int → Row → List (Int × Int)
  | lN, lB, c :: b :: r => if c = 0 then [] else if b = lB ∧ 0 < lN ∧ lN < 255 then [] else (c, b) :: rpairs c b r
  | _, _, _ => []
def unp (l : List (Int × Int)) : Row := (l.map fun q => List.replicate q.1.toNat q.2).flatten
theorem unp_cons (q : Int × Int) (l : List (Int × Int)) : unp (q :: l) = List.replicate q.1.toNat q.2 ++ unp l := rfl
theorem rfeed_pairs : ∀ (r : Row) (done lN lB : Int), (rfeed (.runs done 0 lN lB) r).1 = unp (rpairs lN lB r)
  | [], done, lN, lB => by simp [rpairs, unp, rfeed]
  | [c], done, lN, lB => by
    rw [rfeed_cons]
    simp only [rtake]
    rw [if_pos trivial]
    by_cases h : c = 0
    · rw [if_pos h]
      simp [rpairs, unp]
    · rw [if_neg h]
      simp [rpairs, unp, rfeed]
  | c :: b :: r, done, lN, lB => by
    rw [rfeed_cons]
    simp only [rtake]
    rw [if_pos trivial, rpairs]
    by_cases h : c = 0
    · rw [if_pos h, if_pos h]
      rfl
    · rw [if_neg h, if_neg h]
      dsimp only
      rw [rfeed_cons]
      simp only [rtake]
      rw [if_neg h]
      by_cases h2 : b = lB ∧ 0 < lN ∧ lN < 255
      · rw [if_pos h2, if_pos h2]
        rfl
      · rw [if_neg h2, if_neg h2]
        dsimp only
        rw [rfeed_pairs r (done + 1 + 1) c b, unp_cons]
        rfl
def n255 (r : Row) : Nat := r.countP fun x => decide (x = 255)
theorem n255_cons (x : Int) (r : Row) : n255 (x :: r) = (if x = 255 then 1 else 0) + n255 r := by
  unfold n255
  rw [List.countP_cons]
  by_cases h : x = 255
  · simp [h]; omega
  · simp [h]
theorem n255_app (x y : Row) : n255 (x ++ y) = n255 x + n255 y := List.countP_append ..
theorem n255_rep (n : Nat) (b : Int) : n255 (List.replicate n b) = if b = 255 then n else 0 := by
  unfold n255
  rw [List.countP_replicate]
  by_cases h : b = 255 <;> simp [h]
def chg : Row → Nat
  | x :: y :: r => (if x = y then 0 else 1) + chg (y :: r)
  | _ => 0
theorem chg_two (x y : Int) (r : Row) : chg (x :: y :: r) = (if x = y then 0 else 1) + chg (y :: r) := rfl
def credit (lN lB : Int) : Nat := if (lN = 0 ∨ lN = 255) ∧ lB ≠ 255 then 2 else 0
theorem credit_le (lN lB : Int) : credit lN lB ≤ 2 := by unfold credit; split <;> omega
theorem pairs_few : ∀ (r : Row) (lN lB : Int), Bys r → 0 ≤ lN → lN ≤ 255 → 2 * (rpairs lN lB r).length ≤ n255 r + 4 * chg (lB :: r) + credit lN lB
  | [], lN, lB, _, _, _ => by simp [rpairs]
  | [c], lN, lB, _, _, _ => by simp [rpairs]
  | c :: b :: r, lN, lB, hb, h0, h1 => by
    rw [rpairs]
    obtain ⟨c0, c1⟩ := hb.head
    by_cases h : c = 0
    · rw [if_pos h]; simp
    · rw [if_neg h]
      by_cases h2 : b = lB ∧ 0 < lN ∧ lN < 255
      · rw [if_pos h2]; simp
      · rw [if_neg h2, List.length_cons]
        have ih := pairs_few r c b hb.tail.tail c0 (by omega)
        rw [n255_cons, n255_cons, chg_two, chg_two]
        have hc := credit_le c b
        by_cases hcb : c = b
        · subst hcb
          rw [if_pos rfl]
          by_cases h5 : c = 255
          · subst h5
            have e : credit 255 255 = 0 := rfl
            rw [e] at ih
            rw [if_pos rfl]
            omega
          · rw [if_neg h5]
            by_cases hl : lB = c
            · subst hl
              have e1 : credit lB lB = 0 := by
                unfold credit
                rw [if_neg (by omega)]
              rw [e1] at ih
              have e3 : credit lN lB = 2 := if_pos ⟨by omega, h5⟩
              rw [e3]
              omega
            · rw [if_neg hl]
              omega
        · rw [if_neg hcb]
          omega
def c255 (l : List (Int × Int)) : Nat := l.countP fun q => decide (q.2 = 255)
theorem c255_cons (q : Int × Int) (l : List (Int × Int)) : c255 (q :: l) = (if q.2 = 255 then 1 else 0) + c255 l := by
  unfold c255
  rw [List.countP_cons]
  by_cases h : q.2 = 255
  · simp [h]; omega
  · simp [h]
theorem pairs_255 : ∀ (r : Row) (lN lB : Int), 2 * c255 (rpairs lN lB r) ≤ n255 r + chg (lB :: r)
  | [], lN, lB => by simp [rpairs, c255]
  | [c], lN, lB => by simp [rpairs, c255]
  | c :: b :: r, lN, lB => by
    rw [rpairs]
    by_cases h : c = 0
    · rw [if_pos h]; simp [c255]
    · rw [if_neg h]
      by_cases h2 : b = lB ∧ 0 < lN ∧ lN < 255
      · rw [if_pos h2]; simp [c255]
      · rw [if_neg h2, c255_cons]
        have ih := pairs_255 r c b
        rw [n255_cons, n255_cons, chg_two, chg_two]
        dsimp only
        by_cases hb : b = 255
        · rw [if_pos hb]
          by_cases hc : c = 255
          · rw [if_pos hc]
            omega
          · rw [if_neg hc, if_neg (show ¬ c = b by omega)]
            omega
        · rw [if_neg hb]
          omega
theorem chg_rep : ∀ (n : Nat) (b : Int) (t : Row), chg (b :: (List.replicate n b ++ t)) = chg (b :: t)
  | 0, b, t => rfl
  | n + 1, b, t => by
    rw [List.replicate_succ, List.cons_append, chg_two, if_pos rfl, Nat.zero_add]
    exact chg_rep n b t
theorem chg_unp : ∀ (l : List (Int × Int)) (x : Int), chg (x :: unp l) ≤ l.length
  | [], x => Nat.le_refl 0
  | (c, b) :: l, x => by
    rw [unp_cons, List.length_cons]
    dsimp only
    cases hn : c.toNat with
    | zero =>
      have := chg_unp l x
      simp only [List.replicate_zero, List.nil_append]
      omega
    | succ n =>
      have := chg_unp l b
      rw [List.replicate_succ, List.cons_append, chg_two, chg_rep]
      split <;> omega
theorem unp_len : ∀ (l : List (Int × Int)), (∀ q, q ∈ l → q.1 ≤ 255) → (unp l).length ≤ 255 * l.length
  | [], _ => Nat.le_refl 0
  | (c, b) :: l, h => by
    have h1 := h (c, b) (List.mem_cons_self ..)
    have ih := unp_len l fun q hq => h q (List.mem_cons_of_mem _ hq)
    rw [unp_cons, List.length_append, List.length_replicate, List.length_cons]
    dsimp only at h1 ⊢
    omega
theorem unp_255 : ∀ (l : List (Int × Int)), (∀ q, q ∈ l → q.1 ≤ 255) → n255 (unp l) ≤ 255 * c255 l
  | [], _ => Nat.zero_le _
  | (c, b) :: l, h => by
    have h1 := h (c, b) (List.mem_cons_self ..)
    have ih := unp_255 l fun q hq => h q (List.mem_cons_of_mem _ hq)
    rw [unp_cons, n255_app, n255_rep, c255_cons]
    dsimp only at h1 ⊢
    split <;> omega
theorem pairs_by : ∀ (r : Row) (lN lB : Int), Bys r → ∀ q, q ∈ rpairs lN lB r → q.1 ≤ 255
  | [], lN, lB, _ => by simp [rpairs]
  | [c], lN, lB, _ => by simp [rpairs]
  | c :: b :: r, lN, lB, hb => by
    rw [rpairs]
    obtain ⟨c0, c1⟩ := hb.head
    have ih := pairs_by r c b hb.tail.tail
    intro q hq
    split at hq
    · exact (nomatch hq)
    · split at hq
      · exact (nomatch hq)
      · rcases List.mem_cons.mp hq with z | z
        · rw [z]
          show c ≤ 255
          omega
        · exact ih q z
theorem pairs_big : ∀ (r : Row) (lN lB : Int), Bys r → 2 * n255 (unp (rpairs lN lB r)) ≤ 255 * bigc r
  | [], lN, lB, _ => by simp [rpairs, unp, n255]
  | [c], lN, lB, _ => by simp [rpairs, unp, n255]
  | c :: b :: r, lN, lB, hb => by
    rw [rpairs]
    obtain ⟨c0, c1⟩ := hb.head
    have ih := pairs_big r c b hb.tail.tail
    rw [bigc_cons, bigc_cons]
    by_cases h : c = 0
    · rw [if_pos h]; simp [unp, n255]
    · rw [if_neg h]
      by_cases h2 : b = lB ∧ 0 < lN ∧ lN < 255
      · rw [if_pos h2]; simp [unp, n255]
      · rw [if_neg h2, unp_cons, n255_app, n255_rep]
        dsimp only
        by_cases hb5 : b = 255
        · rw [if_pos hb5, if_pos (show 64 < b by omega)]
          by_cases hc : 64 < c
          · rw [if_pos hc]
            omega
          · rw [if_neg hc]
            omega
        · rw [if_neg hb5]
          omega
theorem pairs_len : ∀ (r : Row) (lN lB : Int), 2 * (rpairs lN lB r).length ≤ r.length
  | [], lN, lB => by simp [rpairs]
  | [c], lN, lB => by simp [rpairs]
  | c :: b :: r, lN, lB => by
    rw [rpairs]
    have ih := pairs_len r c b
    split
    · simp
    · split
      · simp
      · simp only [List.length_cons]
        omega
def unrun (r : Row) : Row := unp (rpairs 0 0 r)
theorem unrun_by {r : Row} (h : Bys r) : Bys (unrun r) := by
  have h1 := (rfeed_len r (newR .runs) (newR_ok (l := .runs) trivial) h).2.2
  show Bys (unp (rpairs 0 0 r))
  rw [← rfeed_pairs r 0 0 0]
  exact h1
theorem three_runs {S : Row} (hb : Bys S) (hl : S.length ≤ 130) (hg : bigc S ≤ 6) : (unrun (unrun (unrun S))).length ≤ 16000000 := by
  have b1 := unrun_by hb
  have b2 := unrun_by b1
  have a1 := pairs_len S 0 0
  have a2 := pairs_big S 0 0 hb
  have a3 := chg_unp (rpairs 0 0 S) 0
  have c1 := pairs_few (unrun S) 0 0 b1 (by decide) (by decide)
  have c2 := pairs_255 (unrun S) 0 0
  have c3 := chg_unp (rpairs 0 0 (unrun S)) 0
  have c4 := unp_255 (rpairs 0 0 (unrun S)) (pairs_by _ _ _ b1)
  have d1 := pairs_few (unrun (unrun S)) 0 0 b2 (by decide) (by decide)
  have d2 := unp_len (rpairs 0 0 (unrun (unrun S))) (pairs_by _ _ _ b2)
  have e1 : credit 0 0 = 2 := rfl
  rw [e1] at c1 d1
  show (unp (rpairs 0 0 (unrun (unrun S)))).length ≤ _
  have f1 : n255 (unrun S) = n255 (unp (rpairs 0 0 S)) := rfl
  have f2 : chg (0 :: unrun S) = chg (0 :: unp (rpairs 0 0 S)) := rfl
  have f3 : n255 (unrun (unrun S)) = n255 (unp (rpairs 0 0 (unrun S))) := rfl
  have f4 : chg (0 :: unrun (unrun S)) = chg (0 :: unp (rpairs 0 0 (unrun S))) := rfl
  rw [f1, f2] at c1 c2
  rw [f3, f4] at d1
  omega
/-- through three layers of runs -/
theorem rseq_three (S : Row) : (rseq (rone 3) [newR .runs, newR .runs, newR .runs] S).1 = unrun (unrun (unrun S)) := by
  have k : ∀ r : Row, (rfeed (newR .runs) r).1 = unrun r := fun r => rfeed_pairs r 0 0 0
  have z : ∀ r : Row, (rseq (rone 0) [] r).1 = r := by
    intro r
    induction r with
    | nil => rfl
    | cons b r ih =>
      rw [rseq_cons]
      show [b] ++ (rseq (rone 0) [] r).1 = _
      rw [ih]
      rfl
  rw [(rseq_layer 2 S (newR .runs) [newR .runs, newR .runs]).1, (rseq_layer 1 _ (newR .runs) [newR .runs]).1, (rseq_layer 0 _ (newR .runs) []).1, z, k, k, k]
theorem rfin_runs (r : Row) : (rfin (newR .runs) r).1 = unrun r := by
  have k := rfeed_pairs r 0 0 0
  unfold rfin
  show (match rfeed (.runs 0 0 0 0) r with
    | (o, _, some p) => ((o, some (LF.wrong p)) : Row × Option LF)
    | (o, s', none) => match rend s' with
      | .wrong p => (o, some (.wrong p))
      | .cut => (o, some .cut)
      | .ok row => (o ++ row, none)).1 = _
  obtain ⟨h1, h2, h3⟩ : True ∧ True ∧ True := ⟨trivial, trivial, trivial⟩
  have hst : ∀ (r : Row) (d m lN lB : Int), ∃ d' m' lN' lB', (rfeed (.runs d m lN lB) r).2.1 = .runs d' m' lN' lB' := by
    intro r
    induction r with
    | nil => intro d m lN lB; exact ⟨d, m, lN, lB, rfl⟩
    | cons b r ih =>
      intro d m lN lB
      rw [rfeed_cons]
      simp only [rtake]
      split
      · rename_i p hp
        exact ⟨d, m, lN, lB, rfl⟩
      · rename_i o s' hp
        split at hp
        · split at hp
          · cases hp
          · injection hp with e1 e2
            subst e1 e2
            exact ih _ _ _ _
        · split at hp
          · cases hp
          · injection hp with e1 e2
            subst e1 e2
            exact ih _ _ _ _
  obtain ⟨d', m', lN', lB', es⟩ := hst r 0 0 0 0
  generalize rfeed (.runs 0 0 0 0) r = q at *
  obtain ⟨o, s', f⟩ := q
  dsimp only at es k
  subst es
  cases f with
  | some p => exact k
  | none =>
    dsimp only [rend]
    split
    · rename_i p hp
      split at hp <;> cases hp
    · exact k
    · rename_i row hp
      split at hp
      · cases hp
      · injection hp with e
        subst e
        show o ++ [] = _
        rw [List.append_nil]
        exact k
theorem readAll_three (S : Row) (hb : Bys S) (hl : S.length ≤ 130) (hg : bigc S ≤ 6) : (readAll [.runs, .runs, .runs] S).1.length ≤ 16000000 := by
  have k : ∀ r : Row, (rfeed (newR .runs) r).1 = unrun r := fun r => rfeed_pairs r 0 0 0
  have z : ∀ r : Row, (rseq (rone 0) [] r).1 = r := by
    intro r
    induction r with
    | nil => rfl
    | cons b r ih =>
      rw [rseq_cons]
      show [b] ++ (rseq (rone 0) [] r).1 = _
      rw [ih]
      rfl
  have h3 := three_runs hb hl hg
  -- what a part tells, whether it ends with a fault or not
  have one : ∀ (l : List Lay) (r : Row), (readAll (l ++ [.runs]) r).1 = (readAll l (unrun r)).1 ∨ (readAll (l ++ [.runs]) r).1 = (rseq (rone l.length) (l.reverse.map newR) (unrun r)).1 := by
    intro l r
    rw [readAll_snoc]
    have h1 := rfin_runs r
    generalize rfin (newR .runs) r = F at *
    obtain ⟨o, f⟩ := F
    dsimp only at h1
    subst h1
    cases f with
    | none => exact Or.inl rfl
    | some f =>
      refine Or.inr ?_
      dsimp only
      generalize rseq (rone l.length) (l.reverse.map newR) (unrun r) = G
      obtain ⟨g1, g2, g3⟩ := G
      cases g3 <;> rfl
  have r1 : ∀ r, (rseq (rone 1) [newR .runs] r).1 = unrun r := fun r => by rw [(rseq_layer 0 r (newR .runs) []).1, z, k]
  have r2 : ∀ r, (rseq (rone 2) [newR .runs, newR .runs] r).1 = unrun (unrun r) := fun r => by rw [(rseq_layer 1 r (newR .runs) [newR .runs]).1, r1, k]
  have q1 : ∀ r, (readAll [.runs] r).1 = unrun r := fun r => by
    rcases one [] r with h | h
    · have h' : (readAll [.runs] r).1 = (readAll [] (unrun r)).1 := h
      rw [h', readAll_nil]
    · have h' : (readAll [.runs] r).1 = (rseq (rone 0) [] (unrun r)).1 := h
      rw [h', z]
  have q2 : ∀ r, (readAll [.runs, .runs] r).1 = unrun (unrun r) := fun r => by
    rcases one [.runs] r with h | h
    · have h' : (readAll [.runs, .runs] r).1 = (readAll [.runs] (unrun r)).1 := h
      rw [h', q1]
    · have h' : (readAll [.runs, .runs] r).1 = (rseq (rone 1) [newR .runs] (unrun r)).1 := h
      rw [h', r1]
  rcases one [.runs, .runs] S with h | h
  · have h' : (readAll [.runs, .runs, .runs] S).1 = (readAll [.runs, .runs] (unrun S)).1 := h
    rw [h', q2]
    exact h3
  · have h' : (readAll [.runs, .runs, .runs] S).1 = (rseq (rone 2) [newR .runs, newR .runs] (unrun S)).1 := h
    rw [h', r2]
    exact h3
/-! all layers -/
theorem stream_small48 {lays : List Lay} {row : Row} (h : ∀ ly, ly ∈ lays → ly.Ok) (h3 : lays.length ≤ 3) (hb : Bys row) (hr : row.length ≤ 48) : (written lays row).length ≤ 19000 := by
  have h1 : bnd lays.length row.length ≤ 5000 := by
    refine Nat.le_trans (bnd_mono _ hr) (Nat.le_trans (bnd_more 48 h3) ?_)
    decide
  have h2 : ebd lays.length ≤ 5000 := by
    refine Nat.le_trans (ebd_mono h3) ?_
    decide
  have := written_short h (by omega) hb (by omega)
  omega
theorem lay_runs (ly : Lay) : ly = .runs ∨ wt ly = 1 := by cases ly <;> first | exact Or.inl rfl | exact Or.inr rfl
theorem runs_w2 (r : Row) : (wfin (newW .runs) r).length ≤ 2 * r.length := by
  have := runs_len2 r 0 0 (by decide)
  have e : rsl 0 = 0 := rfl
  rw [e] at this
  show (wfin (.runs 0 0) r).length ≤ _
  omega
theorem wr1 (x : Lay) (r : Row) : written [x] r = wfin (newW x) r := by
  have := written_snoc [] x r
  rw [written_nil] at this
  exact this
theorem wr2 (x y : Lay) (r : Row) : written [x, y] r = wfin (newW y) (wfin (newW x) r) := by
  have := written_snoc [x] y r
  rw [wr1] at this
  exact this
theorem wr3 (x y z : Lay) (r : Row) : written [x, y, z] r = wfin (newW z) (wfin (newW y) (wfin (newW x) r)) := by
  have := written_snoc [x, y] z r
  rw [wr2] at this
  exact this
theorem wt_runs : wt .runs = 255 := rfl
theorem told_fits {lays : List Lay} {row S : Row} {most : Nat} {pcs : List (Nat × Int)} (oks : ∀ ly, ly ∈ lays → ly.Ok) (h3 : lays.length ≤ 3) (hb : Bys row) (hm : most ≤ 12) (hm2 : 2 ≤ lays.length → most ≤ 5) (hm3 : 3 ≤ lays.length → most ≤ 4)
    (hr : row.length ≤ 4 * most) (hp : pcs.length ≤ most) (hpr : row = flatR pcs) (hS : Bys S) (hl : S.length ≤ (written lays row).length + 2) (hg : bigc S ≤ bigc (written lays row) + 2) :
    (readAll lays S).1.length ≤ 16000000 ∧ (rseq (rone lays.length) (lays.reverse.map newR) S).1.length ≤ 16000000 := by
  have s1 := (readAll_size lays oks S hS).1
  have s2 := (rseq_size lays oks S hS).1
  have sm := stream_small48 oks h3 hb (by omega)
  have gen : wts lays * S.length ≤ 16000000 → (readAll lays S).1.length ≤ 16000000 ∧ (rseq (rone lays.length) (lays.reverse.map newR) S).1.length ≤ 16000000 := fun h => ⟨Nat.le_trans s1 h, Nat.le_trans s2 h⟩
  have small : wts lays ≤ 255 → (readAll lays S).1.length ≤ 16000000 ∧ (rseq (rone lays.length) (lays.reverse.map newR) S).1.length ≤ 16000000 := fun h => gen (by
    have : wts lays * S.length ≤ 255 * 19002 := Nat.mul_le_mul h (by omega)
    omega)
  have mid : wts lays ≤ 65025 → S.length ≤ 202 → (readAll lays S).1.length ≤ 16000000 ∧ (rseq (rone lays.length) (lays.reverse.map newR) S).1.length ≤ 16000000 := fun h h2 => gen (by
    have : wts lays * S.length ≤ 65025 * 202 := Nat.mul_le_mul h h2
    omega)
  match lays, h3, hm2, hm3 with
  | [], _, _, _ => exact small (by simp [wts])
  | [x], _, _, _ =>
    refine small ?_
    rcases lay_runs x with rfl | hx
    · decide
    · simp [wts, hx]
  | [x, y], _, hm2, _ =>
    have m5 := hm2 (by simp)
    rcases lay_runs x with rfl | hx
    · rcases lay_runs y with rfl | hy
      · refine mid (by decide) ?_
        rw [wr2] at hl
        have := runs_w2 row
        have := runs_w2 (wfin (newW .runs) row)
        omega
      · exact small (by simp [wts, hy, wt_runs])
    · rcases lay_runs y with rfl | hy
      · exact small (by simp [wts, hx, wt_runs])
      · exact small (by simp [wts, hx, hy])
  | [x, y, z], _, _, hm3 =>
    have m4 := hm3 (by simp)
    rw [wr3] at hl hg
    rcases lay_runs x with rfl | hx
    · rcases lay_runs y with rfl | hy
      · rcases lay_runs z with rfl | hz
        · have l1 := runs_w2 row
          have l2 := runs_w2 (wfin (newW .runs) row)
          have l3 := runs_w2 (wfin (newW .runs) (wfin (newW .runs) row))
          have g1 : bigc (wfin (newW .runs) row) ≤ 4 := by
            have := runs_pcs pcs 0 0 (by decide) (by rw [← hpr]; omega)
            rw [← hpr, if_pos rfl] at this
            show bigc (wfin (.runs 0 0) row) ≤ 4
            omega
          have g2 : bigc (wfin (newW .runs) (wfin (newW .runs) row)) ≤ 4 := by
            have h1 := runs_big (wfin (newW .runs) row) 0 0 (by decide) (by omega)
            have e : sb 0 0 = 0 := rfl
            rw [e] at h1
            show bigc (wfin (.runs 0 0) (wfin (newW .runs) row)) ≤ 4
            omega
          have g3 : bigc (wfin (newW .runs) (wfin (newW .runs) (wfin (newW .runs) row))) ≤ 4 := by
            have h1 := runs_big (wfin (newW .runs) (wfin (newW .runs) row)) 0 0 (by decide) (by omega)
            have e : sb 0 0 = 0 := rfl
            rw [e] at h1
            show bigc (wfin (.runs 0 0) (wfin (newW .runs) (wfin (newW .runs) row))) ≤ 4
            omega
          refine ⟨readAll_three S hS (by omega) (by omega), ?_⟩
          show (rseq (rone 3) [newR .runs, newR .runs, newR .runs] S).1.length ≤ _
          rw [rseq_three]
          exact three_runs hS (by omega) (by omega)
        · refine mid (by simp [wts, hz, wt_runs]) ?_
          have := runs_w2 row
          have := runs_w2 (wfin (newW .runs) row)
          have := wfin_len3 z (wfin (newW .runs) (wfin (newW .runs) row))
          omega
      · rcases lay_runs z with rfl | hz
        · refine mid (by simp [wts, hy, wt_runs]) ?_
          have := runs_w2 row
          have := wfin_len3 y (wfin (newW .runs) row)
          have := runs_w2 (wfin (newW y) (wfin (newW .runs) row))
          omega
        · exact small (by simp [wts, hy, hz, wt_runs])
    · rcases lay_runs y with rfl | hy
      · rcases lay_runs z with rfl | hz
        · refine mid (by simp [wts, hx, wt_runs]) ?_
          have := wfin_len3 x row
          have := runs_w2 (wfin (newW x) row)
          have := runs_w2 (wfin (newW .runs) (wfin (newW x) row))
          omega
        · exact small (by simp [wts, hx, hz, wt_runs])
      · rcases lay_runs z with rfl | hz
        · exact small (by simp [wts, hx, hy, wt_runs])
        · exact small (by simp [wts, hx, hy, hz])
  | _ :: _ :: _ :: _ :: _, h, _, _ => simp at h
end Flow

namespace Flow
open PySem PySem.Spec PyProof.Rows L2
def top (i : Nat) : Stmt := PySem.Challenge.pw_flowstack_k03_read.main.body.getD i (.Pass ⟨0, 0, 0, 0⟩)
abbrev s_checked : Stmt := top 9
abbrev s_check_bytes : Stmt := top 10
abbrev s_look_layer : Stmt := top 27
abbrev s_look_layers : Stmt := top 28
abbrev s_reader_of : Stmt := top 29
abbrev s_read : Stmt := top 31
abbrev s_law_cell : Stmt := top 33
abbrev s_law_mix : Stmt := top 34
abbrev s_law_whole : Stmt := top 35
abbrev s_law_layer : Stmt := top 36
abbrev s_law_layers : Stmt := top 37
abbrev s_law_row : Stmt := top 38
abbrev s_law_cuts : Stmt := top 39
abbrev s_law_bits : Stmt := top 40
abbrev s_law_groups : Stmt := top 41
abbrev s_law_signs : Stmt := top 42
abbrev s_law_checks : Stmt := top 43
abbrev s_law_write_runs : Stmt := top 44
abbrev s_law_write_front : Stmt := top 45
abbrev s_law_write_pieces : Stmt := top 46
abbrev s_law_write : Stmt := top 47
abbrev s_law_written : Stmt := top 48
abbrev s_law_read_escape : Stmt := top 49
abbrev s_law_read_runs : Stmt := top 50
abbrev s_law_read_chunks : Stmt := top 51
abbrev s_law_read_checks : Stmt := top 52
abbrev s_law_read_signs : Stmt := top 53
abbrev s_law_read : Stmt := top 54
abbrev s_law_is_row : Stmt := top 55
abbrev s_law_is_told : Stmt := top 56
abbrev s_law_spoiled : Stmt := top 57
abbrev s_law_all : Stmt := top 58
abbrev s_law : Stmt := top 59
abbrev s_Wrong_init : Stmt := inClass (top 3) 0
abbrev s_ChunksReader_init : Stmt := inClass (top 8) 0
abbrev s_ChunksReader_take : Stmt := inClass (top 8) 1
abbrev s_ChunksReader_end : Stmt := inClass (top 8) 2
abbrev s_ChecksReader_init : Stmt := inClass (top 11) 0
abbrev s_ChecksReader_block : Stmt := inClass (top 11) 1
abbrev s_ChecksReader_take : Stmt := inClass (top 11) 2
abbrev s_ChecksReader_end : Stmt := inClass (top 11) 3
abbrev s_EscapeReader_init : Stmt := inClass (top 14) 0
abbrev s_EscapeReader_take : Stmt := inClass (top 14) 1
abbrev s_EscapeReader_end : Stmt := inClass (top 14) 2
abbrev s_RunsReader_init : Stmt := inClass (top 15) 0
abbrev s_RunsReader_take : Stmt := inClass (top 15) 1
abbrev s_RunsReader_end : Stmt := inClass (top 15) 2
abbrev s_SignsReader_init : Stmt := inClass (top 19) 0
abbrev s_SignsReader_take : Stmt := inClass (top 19) 1
abbrev s_SignsReader_end : Stmt := inClass (top 19) 2
abbrev s_AddWriter_init : Stmt := inClass (top 21) 0
abbrev s_AddWriter_turned : Stmt := inClass (top 21) 1
abbrev s_AddWriter_take : Stmt := inClass (top 21) 2
abbrev s_AddWriter_end : Stmt := inClass (top 21) 3
abbrev s_AddReader_turned : Stmt := inClass (top 22) 0
abbrev s_FrontWriter_init : Stmt := inClass (top 23) 0
abbrev s_FrontWriter_to_front : Stmt := inClass (top 23) 1
abbrev s_FrontWriter_take : Stmt := inClass (top 23) 2
abbrev s_FrontWriter_end : Stmt := inClass (top 23) 3
abbrev s_FrontReader_take : Stmt := inClass (top 24) 0
abbrev s_Reader_init : Stmt := inClass (top 30) 0
abbrev s_Reader_one : Stmt := inClass (top 30) 1
abbrev s_Reader_take : Stmt := inClass (top 30) 2
abbrev s_Reader_end : Stmt := inClass (top 30) 3
abbrev s_Reader_closing : Stmt := inClass (top 30) 4
abbrev n_checked : List Str := ["check", "row", "byte"]
theorem sc_checked : FnScope n_checked ["check", "row"] (defScope s_checked) := ⟨rfl, rfl, rfl, by decide +kernel, rfl, by decide +kernel, by decide +kernel⟩
abbrev n_check_bytes : List Str := ["check"]
theorem sc_check_bytes : FnScope n_check_bytes ["check"] (defScope s_check_bytes) := ⟨rfl, rfl, rfl, by decide +kernel, rfl, by decide +kernel, by decide +kernel⟩
abbrev n_look_layer : List Str := ["layer", "kind", "good", "byte"]
theorem sc_look_layer : FnScope n_look_layer ["layer"] (defScope s_look_layer) := ⟨rfl, rfl, rfl, by decide +kernel, rfl, by decide +kernel, by decide +kernel⟩
abbrev n_look_layers : List Str := ["layers", "layer"]
theorem sc_look_layers : FnScope n_look_layers ["layers"] (defScope s_look_layers) := ⟨rfl, rfl, rfl, by decide +kernel, rfl, by decide +kernel, by decide +kernel⟩
abbrev n_reader_of : List Str := ["layer"]
theorem sc_reader_of : FnScope n_reader_of ["layer"] (defScope s_reader_of) := ⟨rfl, rfl, rfl, by decide +kernel, rfl, by decide +kernel, by decide +kernel⟩
abbrev n_read : List Str := ["layers", "row", "reader", "first", "second"]
theorem sc_read : FnScope n_read ["layers", "row"] (defScope s_read) := ⟨rfl, rfl, rfl, by decide +kernel, rfl, by decide +kernel, by decide +kernel⟩
abbrev n_law_cell : List Str := ["_law_script", "_law_k"]
theorem sc_law_cell : FnScope n_law_cell ["_law_script", "_law_k"] (defScope s_law_cell) := ⟨rfl, rfl, rfl, by decide +kernel, rfl, by decide +kernel, by decide +kernel⟩
abbrev n_law_mix : List Str := ["_law_script", "_law_k", "_law_number"]
theorem sc_law_mix : FnScope n_law_mix ["_law_script", "_law_k"] (defScope s_law_mix) := ⟨rfl, rfl, rfl, by decide +kernel, rfl, by decide +kernel, by decide +kernel⟩
abbrev n_law_whole : List Str := ["_law_found"]
theorem sc_law_whole : FnScope n_law_whole ["_law_found"] (defScope s_law_whole) := ⟨rfl, rfl, rfl, by decide +kernel, rfl, by decide +kernel, by decide +kernel⟩
abbrev n_law_layer : List Str := ["_law_script", "_law_k", "_law_number", "_law_word", "_law_j"]
theorem sc_law_layer : FnScope n_law_layer ["_law_script", "_law_k"] (defScope s_law_layer) := ⟨rfl, rfl, rfl, by decide +kernel, rfl, by decide +kernel, by decide +kernel⟩
abbrev n_law_layers : List Str := ["_law_script", "_law_k", "_law_most", "_law_j"]
theorem sc_law_layers : FnScope n_law_layers ["_law_script", "_law_k", "_law_most"] (defScope s_law_layers) := ⟨rfl, rfl, rfl, by decide +kernel, rfl, by decide +kernel, by decide +kernel⟩
abbrev n_law_row : List Str := ["_law_script", "_law_k", "_law_pieces", "_law_long", "_law_found", "_law_j", "_law_number", "_law_byte", "_law_many"]
theorem sc_law_row : FnScope n_law_row ["_law_script", "_law_k", "_law_pieces", "_law_long"] (defScope s_law_row) := ⟨rfl, rfl, rfl, by decide +kernel, rfl, by decide +kernel, by decide +kernel⟩
abbrev n_law_cuts : List Str := ["_law_script", "_law_k", "_law_row_here", "_law_found", "_law_at", "_law_many"]
theorem sc_law_cuts : FnScope n_law_cuts ["_law_script", "_law_k", "_law_row_here"] (defScope s_law_cuts) := ⟨rfl, rfl, rfl, by decide +kernel, rfl, by decide +kernel, by decide +kernel⟩
abbrev n_law_bits : List Str := ["_law_row_here", "_law_size", "_law_found", "_law_number", "_law_k"]
theorem sc_law_bits : FnScope n_law_bits ["_law_row_here", "_law_size"] (defScope s_law_bits) := ⟨rfl, rfl, rfl, by decide +kernel, rfl, by decide +kernel, by decide +kernel⟩
abbrev n_law_groups : List Str := ["_law_bits_here", "_law_size", "_law_found", "_law_k", "_law_group", "_law_j"]
theorem sc_law_groups : FnScope n_law_groups ["_law_bits_here", "_law_size"] (defScope s_law_groups) := ⟨rfl, rfl, rfl, by decide +kernel, rfl, by decide +kernel, by decide +kernel⟩
abbrev n_law_signs : List Str := []
theorem sc_law_signs : FnScope n_law_signs [] (defScope s_law_signs) := ⟨rfl, rfl, rfl, by decide +kernel, rfl, by decide +kernel, by decide +kernel⟩
abbrev n_law_checks : List Str := ["_law_row_here", "_law_checks_here", "_law_byte", "_law_check"]
theorem sc_law_checks : FnScope n_law_checks ["_law_row_here"] (defScope s_law_checks) := ⟨rfl, rfl, rfl, by decide +kernel, rfl, by decide +kernel, by decide +kernel⟩
abbrev n_law_write_runs : List Str := ["_law_row_here", "_law_found", "_law_many", "_law_k", "_law_told"]
theorem sc_law_write_runs : FnScope n_law_write_runs ["_law_row_here"] (defScope s_law_write_runs) := ⟨rfl, rfl, rfl, by decide +kernel, rfl, by decide +kernel, by decide +kernel⟩
abbrev n_law_write_front : List Str := ["_law_row_here", "_law_found", "_law_k", "_law_before", "_law_since", "_law_higher", "_law_last", "_law_j", "_law_byte"]
theorem sc_law_write_front : FnScope n_law_write_front ["_law_row_here"] (defScope s_law_write_front) := ⟨rfl, rfl, rfl, by decide +kernel, rfl, by decide +kernel, by decide +kernel⟩
abbrev n_law_write_pieces : List Str := ["_law_word", "_law_size", "_law_row_here", "_law_found", "_law_checks_here", "_law_k", "_law_full", "_law_left"]
theorem sc_law_write_pieces : FnScope n_law_write_pieces ["_law_word", "_law_size", "_law_row_here"] (defScope s_law_write_pieces) := ⟨rfl, rfl, rfl, by decide +kernel, rfl, by decide +kernel, by decide +kernel⟩
abbrev n_law_write : List Str := ["_law_layer_here", "_law_row_here", "_law_key", "_law_marks", "_law_two", "_law_bits_here", "_law_signs_here", "_law_told", "_law_group", "_law_k", "_law_byte"]
theorem sc_law_write : FnScope n_law_write ["_law_layer_here", "_law_row_here"] (defScope s_law_write) := ⟨rfl, rfl, rfl, by decide +kernel, rfl, by decide +kernel, by decide +kernel⟩
abbrev n_law_written : List Str := ["_law_layers_here", "_law_row_here", "_law_layer_here", "_law_told", "_law_one"]
theorem sc_law_written : FnScope n_law_written ["_law_layers_here", "_law_row_here"] (defScope s_law_written) := ⟨rfl, rfl, rfl, by decide +kernel, rfl, by decide +kernel, by decide +kernel⟩
abbrev n_law_read_escape : List Str := ["_law_layer_here", "_law_row_here", "_law_marks", "_law_found", "_law_marked", "_law_k", "_law_told"]
theorem sc_law_read_escape : FnScope n_law_read_escape ["_law_layer_here", "_law_row_here"] (defScope s_law_read_escape) := ⟨rfl, rfl, rfl, by decide +kernel, rfl, by decide +kernel, by decide +kernel⟩
abbrev n_law_read_runs : List Str := ["_law_row_here", "_law_found", "_law_k"]
theorem sc_law_read_runs : FnScope n_law_read_runs ["_law_row_here"] (defScope s_law_read_runs) := ⟨rfl, rfl, rfl, by decide +kernel, rfl, by decide +kernel, by decide +kernel⟩
abbrev n_law_read_chunks : List Str := ["_law_size", "_law_row_here", "_law_found", "_law_left", "_law_last", "_law_k"]
theorem sc_law_read_chunks : FnScope n_law_read_chunks ["_law_size", "_law_row_here"] (defScope s_law_read_chunks) := ⟨rfl, rfl, rfl, by decide +kernel, rfl, by decide +kernel, by decide +kernel⟩
abbrev n_law_read_checks : List Str := ["_law_size", "_law_row_here", "_law_found", "_law_data", "_law_checks_here", "_law_k", "_law_told", "_law_many", "_law_rest"]
theorem sc_law_read_checks : FnScope n_law_read_checks ["_law_size", "_law_row_here"] (defScope s_law_read_checks) := ⟨rfl, rfl, rfl, by decide +kernel, rfl, by decide +kernel, by decide +kernel⟩
abbrev n_law_read_signs : List Str := ["_law_row_here", "_law_found", "_law_bits_here", "_law_k", "_law_before"]
theorem sc_law_read_signs : FnScope n_law_read_signs ["_law_row_here"] (defScope s_law_read_signs) := ⟨rfl, rfl, rfl, by decide +kernel, rfl, by decide +kernel, by decide +kernel⟩
abbrev n_law_read : List Str := ["_law_layer_here", "_law_row_here", "_law_key", "_law_held", "_law_found", "_law_place", "_law_k"]
theorem sc_law_read : FnScope n_law_read ["_law_layer_here", "_law_row_here"] (defScope s_law_read) := ⟨rfl, rfl, rfl, by decide +kernel, rfl, by decide +kernel, by decide +kernel⟩
abbrev n_law_is_row : List Str := ["_law_found", "_law_byte"]
theorem sc_law_is_row : FnScope n_law_is_row ["_law_found"] (defScope s_law_is_row) := ⟨rfl, rfl, rfl, by decide +kernel, rfl, by decide +kernel, by decide +kernel⟩
abbrev n_law_is_told : List Str := ["_law_found", "_law_one"]
theorem sc_law_is_told : FnScope n_law_is_told ["_law_found"] (defScope s_law_is_told) := ⟨rfl, rfl, rfl, by decide +kernel, rfl, by decide +kernel, by decide +kernel⟩
abbrev n_law_spoiled : List Str := ["_law_script", "_law_k", "_law_row_here", "_law_j", "_law_number", "_law_at", "_law_byte", "_law_way"]
theorem sc_law_spoiled : FnScope n_law_spoiled ["_law_script", "_law_k", "_law_row_here"] (defScope s_law_spoiled) := ⟨rfl, rfl, rfl, by decide +kernel, rfl, by decide +kernel, by decide +kernel⟩
abbrev n_law_all : List Str := ["_law_layers_here", "_law_row_here", "_law_told", "_law_faults", "_law_j", "_law_rows", "_law_fault", "_law_times", "_law_new", "_law_k", "_law_one", "_law_i"]
theorem sc_law_all : FnScope n_law_all ["_law_layers_here", "_law_row_here"] (defScope s_law_all) := ⟨rfl, rfl, rfl, by decide +kernel, rfl, by decide +kernel, by decide +kernel⟩
abbrev n_law : List Str := ["_law_script", "_law_layers_here", "_law_row_here", "_law_due", "_law_handed", "_law_found"]
theorem sc_law : FnScope n_law ["_law_script"] (defScope s_law) := ⟨rfl, rfl, rfl, by decide +kernel, rfl, by decide +kernel, by decide +kernel⟩
abbrev n_Wrong_init : List Str := ["self", "place"]
theorem sc_Wrong_init : FnScope n_Wrong_init ["self", "place"] (defScope s_Wrong_init) := ⟨rfl, rfl, rfl, by decide +kernel, rfl, by decide +kernel, by decide +kernel⟩
abbrev n_ChunksReader_init : List Str := ["self", "size"]
theorem sc_ChunksReader_init : FnScope n_ChunksReader_init ["self", "size"] (defScope s_ChunksReader_init) := ⟨rfl, rfl, rfl, by decide +kernel, rfl, by decide +kernel, by decide +kernel⟩
abbrev n_ChunksReader_take : List Str := ["self", "byte", "place"]
theorem sc_ChunksReader_take : FnScope n_ChunksReader_take ["self", "byte"] (defScope s_ChunksReader_take) := ⟨rfl, rfl, rfl, by decide +kernel, rfl, by decide +kernel, by decide +kernel⟩
abbrev n_ChunksReader_end : List Str := ["self"]
theorem sc_ChunksReader_end : FnScope n_ChunksReader_end ["self"] (defScope s_ChunksReader_end) := ⟨rfl, rfl, rfl, by decide +kernel, rfl, by decide +kernel, by decide +kernel⟩
abbrev n_ChecksReader_init : List Str := ["self", "size"]
theorem sc_ChecksReader_init : FnScope n_ChecksReader_init ["self", "size"] (defScope s_ChecksReader_init) := ⟨rfl, rfl, rfl, by decide +kernel, rfl, by decide +kernel, by decide +kernel⟩
abbrev n_ChecksReader_block : List Str := ["self", "row"]
theorem sc_ChecksReader_block : FnScope n_ChecksReader_block ["self"] (defScope s_ChecksReader_block) := ⟨rfl, rfl, rfl, by decide +kernel, rfl, by decide +kernel, by decide +kernel⟩
abbrev n_ChecksReader_take : List Str := ["self", "byte"]
theorem sc_ChecksReader_take : FnScope n_ChecksReader_take ["self", "byte"] (defScope s_ChecksReader_take) := ⟨rfl, rfl, rfl, by decide +kernel, rfl, by decide +kernel, by decide +kernel⟩
abbrev n_ChecksReader_end : List Str := ["self"]
theorem sc_ChecksReader_end : FnScope n_ChecksReader_end ["self"] (defScope s_ChecksReader_end) := ⟨rfl, rfl, rfl, by decide +kernel, rfl, by decide +kernel, by decide +kernel⟩
abbrev n_EscapeReader_init : List Str := ["self", "byte", "k"]
theorem sc_EscapeReader_init : FnScope n_EscapeReader_init ["self", "byte"] (defScope s_EscapeReader_init) := ⟨rfl, rfl, rfl, by decide +kernel, rfl, by decide +kernel, by decide +kernel⟩
abbrev n_EscapeReader_take : List Str := ["self", "byte", "place"]
theorem sc_EscapeReader_take : FnScope n_EscapeReader_take ["self", "byte"] (defScope s_EscapeReader_take) := ⟨rfl, rfl, rfl, by decide +kernel, rfl, by decide +kernel, by decide +kernel⟩
abbrev n_EscapeReader_end : List Str := ["self"]
theorem sc_EscapeReader_end : FnScope n_EscapeReader_end ["self"] (defScope s_EscapeReader_end) := ⟨rfl, rfl, rfl, by decide +kernel, rfl, by decide +kernel, by decide +kernel⟩
abbrev n_RunsReader_init : List Str := ["self"]
theorem sc_RunsReader_init : FnScope n_RunsReader_init ["self"] (defScope s_RunsReader_init) := ⟨rfl, rfl, rfl, by decide +kernel, rfl, by decide +kernel, by decide +kernel⟩
abbrev n_RunsReader_take : List Str := ["self", "byte", "place"]
theorem sc_RunsReader_take : FnScope n_RunsReader_take ["self", "byte"] (defScope s_RunsReader_take) := ⟨rfl, rfl, rfl, by decide +kernel, rfl, by decide +kernel, by decide +kernel⟩
abbrev n_RunsReader_end : List Str := ["self"]
theorem sc_RunsReader_end : FnScope n_RunsReader_end ["self"] (defScope s_RunsReader_end) := ⟨rfl, rfl, rfl, by decide +kernel, rfl, by decide +kernel, by decide +kernel⟩
abbrev n_SignsReader_init : List Str := ["self"]
theorem sc_SignsReader_init : FnScope n_SignsReader_init ["self"] (defScope s_SignsReader_init) := ⟨rfl, rfl, rfl, by decide +kernel, rfl, by decide +kernel, by decide +kernel⟩
abbrev n_SignsReader_take : List Str := ["self", "byte", "place", "found"]
theorem sc_SignsReader_take : FnScope n_SignsReader_take ["self", "byte"] (defScope s_SignsReader_take) := ⟨rfl, rfl, rfl, by decide +kernel, rfl, by decide +kernel, by decide +kernel⟩
abbrev n_SignsReader_end : List Str := ["self"]
theorem sc_SignsReader_end : FnScope n_SignsReader_end ["self"] (defScope s_SignsReader_end) := ⟨rfl, rfl, rfl, by decide +kernel, rfl, by decide +kernel, by decide +kernel⟩
abbrev n_AddWriter_init : List Str := ["self", "key"]
theorem sc_AddWriter_init : FnScope n_AddWriter_init ["self", "key"] (defScope s_AddWriter_init) := ⟨rfl, rfl, rfl, by decide +kernel, rfl, by decide +kernel, by decide +kernel⟩
abbrev n_AddWriter_turned : List Str := ["self", "byte"]
theorem sc_AddWriter_turned : FnScope n_AddWriter_turned ["self", "byte"] (defScope s_AddWriter_turned) := ⟨rfl, rfl, rfl, by decide +kernel, rfl, by decide +kernel, by decide +kernel⟩
abbrev n_AddWriter_take : List Str := ["self", "byte", "found"]
theorem sc_AddWriter_take : FnScope n_AddWriter_take ["self", "byte"] (defScope s_AddWriter_take) := ⟨rfl, rfl, rfl, by decide +kernel, rfl, by decide +kernel, by decide +kernel⟩
abbrev n_AddWriter_end : List Str := ["self"]
theorem sc_AddWriter_end : FnScope n_AddWriter_end ["self"] (defScope s_AddWriter_end) := ⟨rfl, rfl, rfl, by decide +kernel, rfl, by decide +kernel, by decide +kernel⟩
abbrev n_AddReader_turned : List Str := ["self", "byte"]
theorem sc_AddReader_turned : FnScope n_AddReader_turned ["self", "byte"] (defScope s_AddReader_turned) := ⟨rfl, rfl, rfl, by decide +kernel, rfl, by decide +kernel, by decide +kernel⟩
abbrev n_FrontWriter_init : List Str := ["self"]
theorem sc_FrontWriter_init : FnScope n_FrontWriter_init ["self"] (defScope s_FrontWriter_init) := ⟨rfl, rfl, rfl, by decide +kernel, rfl, by decide +kernel, by decide +kernel⟩
abbrev n_FrontWriter_to_front : List Str := ["self", "place", "byte"]
theorem sc_FrontWriter_to_front : FnScope n_FrontWriter_to_front ["self", "place"] (defScope s_FrontWriter_to_front) := ⟨rfl, rfl, rfl, by decide +kernel, rfl, by decide +kernel, by decide +kernel⟩
abbrev n_FrontWriter_take : List Str := ["self", "byte", "place"]
theorem sc_FrontWriter_take : FnScope n_FrontWriter_take ["self", "byte"] (defScope s_FrontWriter_take) := ⟨rfl, rfl, rfl, by decide +kernel, rfl, by decide +kernel, by decide +kernel⟩
abbrev n_FrontWriter_end : List Str := ["self"]
theorem sc_FrontWriter_end : FnScope n_FrontWriter_end ["self"] (defScope s_FrontWriter_end) := ⟨rfl, rfl, rfl, by decide +kernel, rfl, by decide +kernel, by decide +kernel⟩
abbrev n_FrontReader_take : List Str := ["self", "byte"]
theorem sc_FrontReader_take : FnScope n_FrontReader_take ["self", "byte"] (defScope s_FrontReader_take) := ⟨rfl, rfl, rfl, by decide +kernel, rfl, by decide +kernel, by decide +kernel⟩
abbrev n_Reader_init : List Str := ["self", "layers", "layer"]
theorem sc_Reader_init : FnScope n_Reader_init ["self", "layers"] (defScope s_Reader_init) := ⟨rfl, rfl, rfl, by decide +kernel, rfl, by decide +kernel, by decide +kernel⟩
abbrev n_Reader_one : List Str := ["self", "at", "byte", "row", "e", "found", "inner"]
theorem sc_Reader_one : FnScope n_Reader_one ["self", "at", "byte"] (defScope s_Reader_one) := ⟨rfl, rfl, rfl, by decide +kernel, rfl, by decide +kernel, by decide +kernel⟩
abbrev n_Reader_take : List Str := ["self", "row", "found", "byte"]
theorem sc_Reader_take : FnScope n_Reader_take ["self", "row"] (defScope s_Reader_take) := ⟨rfl, rfl, rfl, by decide +kernel, rfl, by decide +kernel, by decide +kernel⟩
abbrev n_Reader_end : List Str := ["self", "found", "at"]
theorem sc_Reader_end : FnScope n_Reader_end ["self"] (defScope s_Reader_end) := ⟨rfl, rfl, rfl, by decide +kernel, rfl, by decide +kernel, by decide +kernel⟩
abbrev n_Reader_closing : List Str := ["self", "at", "row", "e", "found", "inner"]
theorem sc_Reader_closing : FnScope n_Reader_closing ["self", "at"] (defScope s_Reader_closing) := ⟨rfl, rfl, rfl, by decide +kernel, rfl, by decide +kernel, by decide +kernel⟩
def fa : List He.Fa := [.glo "checked",
  .glo "check_bytes",
  .glo "look_layer",
  .glo "look_layers",
  .glo "reader_of",
  .glo "read",
  .glo "_law_cell",
  .glo "_law_mix",
  .glo "_law_whole",
  .glo "_law_layer",
  .glo "_law_layers",
  .glo "_law_row",
  .glo "_law_cuts",
  .glo "_law_bits",
  .glo "_law_groups",
  .glo "_law_signs",
  .glo "_law_checks",
  .glo "_law_write_runs",
  .glo "_law_write_front",
  .glo "_law_write_pieces",
  .glo "_law_write",
  .glo "_law_written",
  .glo "_law_read_escape",
  .glo "_law_read_runs",
  .glo "_law_read_chunks",
  .glo "_law_read_checks",
  .glo "_law_read_signs",
  .glo "_law_read",
  .glo "_law_is_row",
  .glo "_law_is_told",
  .glo "_law_spoiled",
  .glo "_law_all",
  .glo "law",
  .free "len",
  .free "range",
  .free "list",
  .free "tuple",
  .free "set",
  .free "all",
  .free "sum",
  .free "max",
  .free "min",
  .free "reversed",
  .free "isinstance",
  .free "int",
  .free "bool",
  .free "ValueError",
  .glo "ChunksReader",
  .cls "ChunksReader",
  .mkr "ChunksReader",
  .noat "ChunksReader" "size",
  .noat "ChunksReader" "done",
  .noat "ChunksReader" "left",
  .noat "ChunksReader" "is_last",
  .meth "ChunksReader" "__init__",
  .meth "ChunksReader" "take",
  .meth "ChunksReader" "end",
  .glo "ChecksReader",
  .cls "ChecksReader",
  .mkr "ChecksReader",
  .noat "ChecksReader" "size",
  .noat "ChecksReader" "done",
  .noat "ChecksReader" "check",
  .noat "ChecksReader" "held",
  .meth "ChecksReader" "__init__",
  .meth "ChecksReader" "block",
  .meth "ChecksReader" "take",
  .meth "ChecksReader" "end",
  .glo "EscapeReader",
  .cls "EscapeReader",
  .mkr "EscapeReader",
  .noat "EscapeReader" "marks",
  .noat "EscapeReader" "done",
  .noat "EscapeReader" "marked",
  .meth "EscapeReader" "__init__",
  .meth "EscapeReader" "take",
  .meth "EscapeReader" "end",
  .glo "RunsReader",
  .cls "RunsReader",
  .mkr "RunsReader",
  .noat "RunsReader" "done",
  .noat "RunsReader" "many",
  .noat "RunsReader" "last",
  .meth "RunsReader" "__init__",
  .meth "RunsReader" "take",
  .meth "RunsReader" "end",
  .glo "SignsReader",
  .cls "SignsReader",
  .mkr "SignsReader",
  .noat "SignsReader" "done",
  .noat "SignsReader" "many",
  .noat "SignsReader" "value",
  .meth "SignsReader" "__init__",
  .meth "SignsReader" "take",
  .meth "SignsReader" "end",
  .glo "AddWriter",
  .cls "AddWriter",
  .mkr "AddWriter",
  .noat "AddWriter" "key",
  .noat "AddWriter" "at",
  .meth "AddWriter" "__init__",
  .meth "AddWriter" "turned",
  .meth "AddWriter" "take",
  .meth "AddWriter" "end",
  .glo "AddReader",
  .cls "AddReader",
  .mkr "AddReader",
  .noat "AddReader" "key",
  .noat "AddReader" "at",
  .meth "AddReader" "turned",
  .meth "AddReader" "__init__",
  .meth "AddReader" "take",
  .meth "AddReader" "end",
  .glo "FrontWriter",
  .cls "FrontWriter",
  .mkr "FrontWriter",
  .noat "FrontWriter" "row",
  .meth "FrontWriter" "__init__",
  .meth "FrontWriter" "to_front",
  .meth "FrontWriter" "take",
  .meth "FrontWriter" "end",
  .glo "FrontReader",
  .cls "FrontReader",
  .mkr "FrontReader",
  .noat "FrontReader" "row",
  .meth "FrontReader" "take",
  .meth "FrontReader" "__init__",
  .meth "FrontReader" "to_front",
  .meth "FrontReader" "end",
  .glo "Reader",
  .cls "Reader",
  .mkr "Reader",
  .noat "Reader" "parts",
  .noat "Reader" "fault",
  .meth "Reader" "__init__",
  .meth "Reader" "one",
  .meth "Reader" "take",
  .meth "Reader" "end",
  .meth "Reader" "closing",
  .glo "FlowError",
  .glo "BadLayer",
  .exc "BadLayer",
  .glo "Wrong",
  .noat "Wrong" "place",
  .meth "Wrong" "__init__",
  .glo "Cut",
  .exc "Cut",
  .exm "Wrong" "Wrong" true,
  .exm "Cut" "Wrong" false,
  .exm "Cut" "Cut" true,
  .exm "BadLayer" "FlowError" true,
  .int "PRIME" 65521,
  .int "FACTOR" 257,
  .int "LONGEST" 255,
  .glo "POWERS",
  .glo "SIGNS",
  .int "MOST" 8]
def d0 : He.DefD := ⟨("checked", none), "checked", "checked", defArgs s_checked, defBody s_checked, defScope s_checked, [], []⟩
def d1 : He.DefD := ⟨("check_bytes", none), "check_bytes", "check_bytes", defArgs s_check_bytes, defBody s_check_bytes, defScope s_check_bytes, [], []⟩
def d2 : He.DefD := ⟨("look_layer", none), "look_layer", "look_layer", defArgs s_look_layer, defBody s_look_layer, defScope s_look_layer, [], []⟩
def d3 : He.DefD := ⟨("look_layers", none), "look_layers", "look_layers", defArgs s_look_layers, defBody s_look_layers, defScope s_look_layers, [], []⟩
def d4 : He.DefD := ⟨("reader_of", none), "reader_of", "reader_of", defArgs s_reader_of, defBody s_reader_of, defScope s_reader_of, [], []⟩
def d5 : He.DefD := ⟨("read", none), "read", "read", defArgs s_read, defBody s_read, defScope s_read, [], []⟩
def d6 : He.DefD := ⟨("_law_cell", none), "_law_cell", "_law_cell", defArgs s_law_cell, defBody s_law_cell, defScope s_law_cell, [], []⟩
def d7 : He.DefD := ⟨("_law_mix", none), "_law_mix", "_law_mix", defArgs s_law_mix, defBody s_law_mix, defScope s_law_mix, [], []⟩
def d8 : He.DefD := ⟨("_law_whole", none), "_law_whole", "_law_whole", defArgs s_law_whole, defBody s_law_whole, defScope s_law_whole, [], []⟩
def d9 : He.DefD := ⟨("_law_layer", none), "_law_layer", "_law_layer", defArgs s_law_layer, defBody s_law_layer, defScope s_law_layer, [], []⟩
def d10 : He.DefD := ⟨("_law_layers", none), "_law_layers", "_law_layers", defArgs s_law_layers, defBody s_law_layers, defScope s_law_layers, [], []⟩
def d11 : He.DefD := ⟨("_law_row", none), "_law_row", "_law_row", defArgs s_law_row, defBody s_law_row, defScope s_law_row, [], []⟩
def d12 : He.DefD := ⟨("_law_cuts", none), "_law_cuts", "_law_cuts", defArgs s_law_cuts, defBody s_law_cuts, defScope s_law_cuts, [], []⟩
def d13 : He.DefD := ⟨("_law_bits", none), "_law_bits", "_law_bits", defArgs s_law_bits, defBody s_law_bits, defScope s_law_bits, [], []⟩
def d14 : He.DefD := ⟨("_law_groups", none), "_law_groups", "_law_groups", defArgs s_law_groups, defBody s_law_groups, defScope s_law_groups, [], []⟩
def d15 : He.DefD := ⟨("_law_signs", none), "_law_signs", "_law_signs", defArgs s_law_signs, defBody s_law_signs, defScope s_law_signs, [], []⟩
def d16 : He.DefD := ⟨("_law_checks", none), "_law_checks", "_law_checks", defArgs s_law_checks, defBody s_law_checks, defScope s_law_checks, [], []⟩
def d17 : He.DefD := ⟨("_law_write_runs", none), "_law_write_runs", "_law_write_runs", defArgs s_law_write_runs, defBody s_law_write_runs, defScope s_law_write_runs, [], []⟩
def d18 : He.DefD := ⟨("_law_write_front", none), "_law_write_front", "_law_write_front", defArgs s_law_write_front, defBody s_law_write_front, defScope s_law_write_front, [], []⟩
def d19 : He.DefD := ⟨("_law_write_pieces", none), "_law_write_pieces", "_law_write_pieces", defArgs s_law_write_pieces, defBody s_law_write_pieces, defScope s_law_write_pieces, [], []⟩
def d20 : He.DefD := ⟨("_law_write", none), "_law_write", "_law_write", defArgs s_law_write, defBody s_law_write, defScope s_law_write, [], []⟩
def d21 : He.DefD := ⟨("_law_written", none), "_law_written", "_law_written", defArgs s_law_written, defBody s_law_written, defScope s_law_written, [], []⟩
def d22 : He.DefD := ⟨("_law_read_escape", none), "_law_read_escape", "_law_read_escape", defArgs s_law_read_escape, defBody s_law_read_escape, defScope s_law_read_escape, [], []⟩
def d23 : He.DefD := ⟨("_law_read_runs", none), "_law_read_runs", "_law_read_runs", defArgs s_law_read_runs, defBody s_law_read_runs, defScope s_law_read_runs, [], []⟩
def d24 : He.DefD := ⟨("_law_read_chunks", none), "_law_read_chunks", "_law_read_chunks", defArgs s_law_read_chunks, defBody s_law_read_chunks, defScope s_law_read_chunks, [], []⟩
def d25 : He.DefD := ⟨("_law_read_checks", none), "_law_read_checks", "_law_read_checks", defArgs s_law_read_checks, defBody s_law_read_checks, defScope s_law_read_checks, [], []⟩
def d26 : He.DefD := ⟨("_law_read_signs", none), "_law_read_signs", "_law_read_signs", defArgs s_law_read_signs, defBody s_law_read_signs, defScope s_law_read_signs, [], []⟩
def d27 : He.DefD := ⟨("_law_read", none), "_law_read", "_law_read", defArgs s_law_read, defBody s_law_read, defScope s_law_read, [], []⟩
def d28 : He.DefD := ⟨("_law_is_row", none), "_law_is_row", "_law_is_row", defArgs s_law_is_row, defBody s_law_is_row, defScope s_law_is_row, [], []⟩
def d29 : He.DefD := ⟨("_law_is_told", none), "_law_is_told", "_law_is_told", defArgs s_law_is_told, defBody s_law_is_told, defScope s_law_is_told, [], []⟩
def d30 : He.DefD := ⟨("_law_spoiled", none), "_law_spoiled", "_law_spoiled", defArgs s_law_spoiled, defBody s_law_spoiled, defScope s_law_spoiled, [], []⟩
def d31 : He.DefD := ⟨("_law_all", none), "_law_all", "_law_all", defArgs s_law_all, defBody s_law_all, defScope s_law_all, [], []⟩
def d32 : He.DefD := ⟨("law", none), "law", "law", defArgs s_law, defBody s_law, defScope s_law, [], []⟩
def d33 : He.DefD := ⟨("ChunksReader", some "__init__"), "__init__", "ChunksReader.__init__", defArgs s_ChunksReader_init, defBody s_ChunksReader_init, defScope s_ChunksReader_init, [], []⟩
def d34 : He.DefD := ⟨("ChunksReader", some "take"), "take", "ChunksReader.take", defArgs s_ChunksReader_take, defBody s_ChunksReader_take, defScope s_ChunksReader_take, [], []⟩
def d35 : He.DefD := ⟨("ChunksReader", some "end"), "end", "ChunksReader.end", defArgs s_ChunksReader_end, defBody s_ChunksReader_end, defScope s_ChunksReader_end, [], []⟩
def d36 : He.DefD := ⟨("ChecksReader", some "__init__"), "__init__", "ChecksReader.__init__", defArgs s_ChecksReader_init, defBody s_ChecksReader_init, defScope s_ChecksReader_init, [], []⟩
def d37 : He.DefD := ⟨("ChecksReader", some "block"), "block", "ChecksReader.block", defArgs s_ChecksReader_block, defBody s_ChecksReader_block, defScope s_ChecksReader_block, [], []⟩
def d38 : He.DefD := ⟨("ChecksReader", some "take"), "take", "ChecksReader.take", defArgs s_ChecksReader_take, defBody s_ChecksReader_take, defScope s_ChecksReader_take, [], []⟩
def d39 : He.DefD := ⟨("ChecksReader", some "end"), "end", "ChecksReader.end", defArgs s_ChecksReader_end, defBody s_ChecksReader_end, defScope s_ChecksReader_end, [], []⟩
def d40 : He.DefD := ⟨("EscapeReader", some "__init__"), "__init__", "EscapeReader.__init__", defArgs s_EscapeReader_init, defBody s_EscapeReader_init, defScope s_EscapeReader_init, [], []⟩
def d41 : He.DefD := ⟨("EscapeReader", some "take"), "take", "EscapeReader.take", defArgs s_EscapeReader_take, defBody s_EscapeReader_take, defScope s_EscapeReader_take, [], []⟩
def d42 : He.DefD := ⟨("EscapeReader", some "end"), "end", "EscapeReader.end", defArgs s_EscapeReader_end, defBody s_EscapeReader_end, defScope s_EscapeReader_end, [], []⟩
def d43 : He.DefD := ⟨("RunsReader", some "__init__"), "__init__", "RunsReader.__init__", defArgs s_RunsReader_init, defBody s_RunsReader_init, defScope s_RunsReader_init, [], []⟩
def d44 : He.DefD := ⟨("RunsReader", some "take"), "take", "RunsReader.take", defArgs s_RunsReader_take, defBody s_RunsReader_take, defScope s_RunsReader_take, [], []⟩
def d45 : He.DefD := ⟨("RunsReader", some "end"), "end", "RunsReader.end", defArgs s_RunsReader_end, defBody s_RunsReader_end, defScope s_RunsReader_end, [], []⟩
def d46 : He.DefD := ⟨("SignsReader", some "__init__"), "__init__", "SignsReader.__init__", defArgs s_SignsReader_init, defBody s_SignsReader_init, defScope s_SignsReader_init, [], []⟩
def d47 : He.DefD := ⟨("SignsReader", some "take"), "take", "SignsReader.take", defArgs s_SignsReader_take, defBody s_SignsReader_take, defScope s_SignsReader_take, [], []⟩
def d48 : He.DefD := ⟨("SignsReader", some "end"), "end", "SignsReader.end", defArgs s_SignsReader_end, defBody s_SignsReader_end, defScope s_SignsReader_end, [], []⟩
def d49 : He.DefD := ⟨("AddWriter", some "__init__"), "__init__", "AddWriter.__init__", defArgs s_AddWriter_init, defBody s_AddWriter_init, defScope s_AddWriter_init, [], []⟩
def d50 : He.DefD := ⟨("AddWriter", some "turned"), "turned", "AddWriter.turned", defArgs s_AddWriter_turned, defBody s_AddWriter_turned, defScope s_AddWriter_turned, [], []⟩
def d51 : He.DefD := ⟨("AddWriter", some "take"), "take", "AddWriter.take", defArgs s_AddWriter_take, defBody s_AddWriter_take, defScope s_AddWriter_take, [], []⟩
def d52 : He.DefD := ⟨("AddWriter", some "end"), "end", "AddWriter.end", defArgs s_AddWriter_end, defBody s_AddWriter_end, defScope s_AddWriter_end, [], []⟩
def d53 : He.DefD := ⟨("AddReader", some "turned"), "turned", "AddReader.turned", defArgs s_AddReader_turned, defBody s_AddReader_turned, defScope s_AddReader_turned, [], []⟩
def d54 : He.DefD := ⟨("AddReader", some "__init__"), "__init__", "AddWriter.__init__", defArgs s_AddWriter_init, defBody s_AddWriter_init, defScope s_AddWriter_init, [], []⟩
def d55 : He.DefD := ⟨("AddReader", some "take"), "take", "AddWriter.take", defArgs s_AddWriter_take, defBody s_AddWriter_take, defScope s_AddWriter_take, [], []⟩
def d56 : He.DefD := ⟨("AddReader", some "end"), "end", "AddWriter.end", defArgs s_AddWriter_end, defBody s_AddWriter_end, defScope s_AddWriter_end, [], []⟩
def d57 : He.DefD := ⟨("FrontWriter", some "__init__"), "__init__", "FrontWriter.__init__", defArgs s_FrontWriter_init, defBody s_FrontWriter_init, defScope s_FrontWriter_init, [], []⟩
def d58 : He.DefD := ⟨("FrontWriter", some "to_front"), "to_front", "FrontWriter.to_front", defArgs s_FrontWriter_to_front, defBody s_FrontWriter_to_front, defScope s_FrontWriter_to_front, [], []⟩
def d59 : He.DefD := ⟨("FrontWriter", some "take"), "take", "FrontWriter.take", defArgs s_FrontWriter_take, defBody s_FrontWriter_take, defScope s_FrontWriter_take, [], []⟩
def d60 : He.DefD := ⟨("FrontWriter", some "end"), "end", "FrontWriter.end", defArgs s_FrontWriter_end, defBody s_FrontWriter_end, defScope s_FrontWriter_end, [], []⟩
def d61 : He.DefD := ⟨("FrontReader", some "take"), "take", "FrontReader.take", defArgs s_FrontReader_take, defBody s_FrontReader_take, defScope s_FrontReader_take, [], []⟩
def d62 : He.DefD := ⟨("FrontReader", some "__init__"), "__init__", "FrontWriter.__init__", defArgs s_FrontWriter_init, defBody s_FrontWriter_init, defScope s_FrontWriter_init, [], []⟩
def d63 : He.DefD := ⟨("FrontReader", some "to_front"), "to_front", "FrontWriter.to_front", defArgs s_FrontWriter_to_front, defBody s_FrontWriter_to_front, defScope s_FrontWriter_to_front, [], []⟩
def d64 : He.DefD := ⟨("FrontReader", some "end"), "end", "FrontWriter.end", defArgs s_FrontWriter_end, defBody s_FrontWriter_end, defScope s_FrontWriter_end, [], []⟩
def d65 : He.DefD := ⟨("Reader", some "__init__"), "__init__", "Reader.__init__", defArgs s_Reader_init, defBody s_Reader_init, defScope s_Reader_init, [], []⟩
def d66 : He.DefD := ⟨("Reader", some "one"), "one", "Reader.one", defArgs s_Reader_one, defBody s_Reader_one, defScope s_Reader_one, [], []⟩
def d67 : He.DefD := ⟨("Reader", some "take"), "take", "Reader.take", defArgs s_Reader_take, defBody s_Reader_take, defScope s_Reader_take, [], []⟩
def d68 : He.DefD := ⟨("Reader", some "end"), "end", "Reader.end", defArgs s_Reader_end, defBody s_Reader_end, defScope s_Reader_end, [], []⟩
def d69 : He.DefD := ⟨("Reader", some "closing"), "closing", "Reader.closing", defArgs s_Reader_closing, defBody s_Reader_closing, defScope s_Reader_closing, [], []⟩
def d70 : He.DefD := ⟨("Wrong", some "__init__"), "__init__", "Wrong.__init__", defArgs s_Wrong_init, defBody s_Wrong_init, defScope s_Wrong_init, [], []⟩
def fn : List He.DefD := [d0, d1, d2, d3, d4, d5, d6, d7, d8, d9, d10, d11, d12, d13, d14, d15, d16, d17, d18, d19, d20, d21, d22, d23, d24, d25, d26, d27, d28, d29, d30, d31, d32, d33, d34, d35, d36, d37, d38, d39, d40, d41, d42, d43, d44, d45, d46, d47, d48, d49, d50, d51, d52, d53, d54, d55, d56, d57, d58, d59, d60, d61, d62, d63, d64, d65, d66, d67, d68, d69, d70]
def exB (K : PySem.W.Frag) : Bool := (oexB K (He.ga K "Wrong") && (xfB K (He.ga K "Wrong") && (He.tupB K "POWERS" (powersT.map He.Dv.int) && (tupNB K "SIGNS" && He.tupB K "SIGNS" (signsT.map He.Dv.int)))))
/-- what the head tells -/
structure Tx (K : PySem.W.Frag) (mg : Str → Option Value) : Prop where
  says : He.SaysD fa fn K
  more : exB K = true
  at_ : ∃ h, K.In h ∧ h.Ns mainGlobals mg
section
variable {K : PySem.W.Frag} {mg : Str → Option Value}
theorem dvInts (l : List Int) : ((l.map He.Dv.int).map (He.Dv.v K)) = l.map V.int := by rw [List.map_map]; rfl
theorem Tx.glo (T : Tx K mg) {x : Str} (c : (He.Fa.glo x).ok K = true) : mg x = some (.ref (He.ga K x)) := by
  obtain ⟨h, X, G⟩ := T.at_
  exact He.glo_ok X G c
theorem Tx.free (T : Tx K mg) {x : Str} (c : (He.Fa.free x).ok K = true) : mg x = none := by
  obtain ⟨h, X, G⟩ := T.at_
  exact He.free_ok X G c
theorem Tx.int (T : Tx K mg) {x : Str} {i : Int} (c : (He.Fa.int x i).ok K = true) : ∃ t, mg x = some (.int i t) := by
  obtain ⟨h, X, G⟩ := T.at_
  exact He.int_ok X G c
theorem fnT {C f : Addr} {m : Str} (M : Meth K C m f) : PySem.W.typeIn K (.ref f) = some (.type "function") := beq_iff_eq.mp M.fn
theorem g_checked (T : Tx K mg) : mg "checked" = some (.ref (He.ga K "checked")) := T.glo (T.says.fact 0 (f := .glo "checked") rfl)
theorem fn_checked (T : Tx K mg) : ∃ fd, FunD K "checked" "checked" (defArgs s_checked) (defBody s_checked) (defScope s_checked) [] [] (He.ga K "checked") fd := T.says.def_ 0 (d := d0) rfl
theorem g_check_bytes (T : Tx K mg) : mg "check_bytes" = some (.ref (He.ga K "check_bytes")) := T.glo (T.says.fact 1 (f := .glo "check_bytes") rfl)
theorem fn_check_bytes (T : Tx K mg) : ∃ fd, FunD K "check_bytes" "check_bytes" (defArgs s_check_bytes) (defBody s_check_bytes) (defScope s_check_bytes) [] [] (He.ga K "check_bytes") fd := T.says.def_ 1 (d := d1) rfl
theorem g_look_layer (T : Tx K mg) : mg "look_layer" = some (.ref (He.ga K "look_layer")) := T.glo (T.says.fact 2 (f := .glo "look_layer") rfl)
theorem fn_look_layer (T : Tx K mg) : ∃ fd, FunD K "look_layer" "look_layer" (defArgs s_look_layer) (defBody s_look_layer) (defScope s_look_layer) [] [] (He.ga K "look_layer") fd := T.says.def_ 2 (d := d2) rfl
theorem g_look_layers (T : Tx K mg) : mg "look_layers" = some (.ref (He.ga K "look_layers")) := T.glo (T.says.fact 3 (f := .glo "look_layers") rfl)
theorem fn_look_layers (T : Tx K mg) : ∃ fd, FunD K "look_layers" "look_layers" (defArgs s_look_layers) (defBody s_look_layers) (defScope s_look_layers) [] [] (He.ga K "look_layers") fd := T.says.def_ 3 (d := d3) rfl
theorem g_reader_of (T : Tx K mg) : mg "reader_of" = some (.ref (He.ga K "reader_of")) := T.glo (T.says.fact 4 (f := .glo "reader_of") rfl)
theorem fn_reader_of (T : Tx K mg) : ∃ fd, FunD K "reader_of" "reader_of" (defArgs s_reader_of) (defBody s_reader_of) (defScope s_reader_of) [] [] (He.ga K "reader_of") fd := T.says.def_ 4 (d := d4) rfl
theorem g_read (T : Tx K mg) : mg "read" = some (.ref (He.ga K "read")) := T.glo (T.says.fact 5 (f := .glo "read") rfl)
theorem fn_read (T : Tx K mg) : ∃ fd, FunD K "read" "read" (defArgs s_read) (defBody s_read) (defScope s_read) [] [] (He.ga K "read") fd := T.says.def_ 5 (d := d5) rfl
theorem g_law_cell (T : Tx K mg) : mg "_law_cell" = some (.ref (He.ga K "_law_cell")) := T.glo (T.says.fact 6 (f := .glo "_law_cell") rfl)
theorem fn_law_cell (T : Tx K mg) : ∃ fd, FunD K "_law_cell" "_law_cell" (defArgs s_law_cell) (defBody s_law_cell) (defScope s_law_cell) [] [] (He.ga K "_law_cell") fd := T.says.def_ 6 (d := d6) rfl
theorem g_law_mix (T : Tx K mg) : mg "_law_mix" = some (.ref (He.ga K "_law_mix")) := T.glo (T.says.fact 7 (f := .glo "_law_mix") rfl)
theorem fn_law_mix (T : Tx K mg) : ∃ fd, FunD K "_law_mix" "_law_mix" (defArgs s_law_mix) (defBody s_law_mix) (defScope s_law_mix) [] [] (He.ga K "_law_mix") fd := T.says.def_ 7 (d := d7) rfl
theorem g_law_whole (T : Tx K mg) : mg "_law_whole" = some (.ref (He.ga K "_law_whole")) := T.glo (T.says.fact 8 (f := .glo "_law_whole") rfl)
theorem fn_law_whole (T : Tx K mg) : ∃ fd, FunD K "_law_whole" "_law_whole" (defArgs s_law_whole) (defBody s_law_whole) (defScope s_law_whole) [] [] (He.ga K "_law_whole") fd := T.says.def_ 8 (d := d8) rfl
theorem g_law_layer (T : Tx K mg) : mg "_law_layer" = some (.ref (He.ga K "_law_layer")) := T.glo (T.says.fact 9 (f := .glo "_law_layer") rfl)
theorem fn_law_layer (T : Tx K mg) : ∃ fd, FunD K "_law_layer" "_law_layer" (defArgs s_law_layer) (defBody s_law_layer) (defScope s_law_layer) [] [] (He.ga K "_law_layer") fd := T.says.def_ 9 (d := d9) rfl
theorem g_law_layers (T : Tx K mg) : mg "_law_layers" = some (.ref (He.ga K "_law_layers")) := T.glo (T.says.fact 10 (f := .glo "_law_layers") rfl)
theorem fn_law_layers (T : Tx K mg) : ∃ fd, FunD K "_law_layers" "_law_layers" (defArgs s_law_layers) (defBody s_law_layers) (defScope s_law_layers) [] [] (He.ga K "_law_layers") fd := T.says.def_ 10 (d := d10) rfl
theorem g_law_row (T : Tx K mg) : mg "_law_row" = some (.ref (He.ga K "_law_row")) := T.glo (T.says.fact 11 (f := .glo "_law_row") rfl)
theorem fn_law_row (T : Tx K mg) : ∃ fd, FunD K "_law_row" "_law_row" (defArgs s_law_row) (defBody s_law_row) (defScope s_law_row) [] [] (He.ga K "_law_row") fd := T.says.def_ 11 (d := d11) rfl
theorem g_law_cuts (T : Tx K mg) : mg "_law_cuts" = some (.ref (He.ga K "_law_cuts")) := T.glo (T.says.fact 12 (f := .glo "_law_cuts") rfl)
theorem fn_law_cuts (T : Tx K mg) : ∃ fd, FunD K "_law_cuts" "_law_cuts" (defArgs s_law_cuts) (defBody s_law_cuts) (defScope s_law_cuts) [] [] (He.ga K "_law_cuts") fd := T.says.def_ 12 (d := d12) rfl
theorem g_law_bits (T : Tx K mg) : mg "_law_bits" = some (.ref (He.ga K "_law_bits")) := T.glo (T.says.fact 13 (f := .glo "_law_bits") rfl)
theorem fn_law_bits (T : Tx K mg) : ∃ fd, FunD K "_law_bits" "_law_bits" (defArgs s_law_bits) (defBody s_law_bits) (defScope s_law_bits) [] [] (He.ga K "_law_bits") fd := T.says.def_ 13 (d := d13) rfl
theorem g_law_groups (T : Tx K mg) : mg "_law_groups" = some (.ref (He.ga K "_law_groups")) := T.glo (T.says.fact 14 (f := .glo "_law_groups") rfl)
theorem fn_law_groups (T : Tx K mg) : ∃ fd, FunD K "_law_groups" "_law_groups" (defArgs s_law_groups) (defBody s_law_groups) (defScope s_law_groups) [] [] (He.ga K "_law_groups") fd := T.says.def_ 14 (d := d14) rfl
theorem g_law_signs (T : Tx K mg) : mg "_law_signs" = some (.ref (He.ga K "_law_signs")) := T.glo (T.says.fact 15 (f := .glo "_law_signs") rfl)
theorem fn_law_signs (T : Tx K mg) : ∃ fd, FunD K "_law_signs" "_law_signs" (defArgs s_law_signs) (defBody s_law_signs) (defScope s_law_signs) [] [] (He.ga K "_law_signs") fd := T.says.def_ 15 (d := d15) rfl
theorem g_law_checks (T : Tx K mg) : mg "_law_checks" = some (.ref (He.ga K "_law_checks")) := T.glo (T.says.fact 16 (f := .glo "_law_checks") rfl)
theorem fn_law_checks (T : Tx K mg) : ∃ fd, FunD K "_law_checks" "_law_checks" (defArgs s_law_checks) (defBody s_law_checks) (defScope s_law_checks) [] [] (He.ga K "_law_checks") fd := T.says.def_ 16 (d := d16) rfl
theorem g_law_write_runs (T : Tx K mg) : mg "_law_write_runs" = some (.ref (He.ga K "_law_write_runs")) := T.glo (T.says.fact 17 (f := .glo "_law_write_runs") rfl)
theorem fn_law_write_runs (T : Tx K mg) : ∃ fd, FunD K "_law_write_runs" "_law_write_runs" (defArgs s_law_write_runs) (defBody s_law_write_runs) (defScope s_law_write_runs) [] [] (He.ga K "_law_write_runs") fd := T.says.def_ 17 (d := d17) rfl
theorem g_law_write_front (T : Tx K mg) : mg "_law_write_front" = some (.ref (He.ga K "_law_write_front")) := T.glo (T.says.fact 18 (f := .glo "_law_write_front") rfl)
theorem fn_law_write_front (T : Tx K mg) : ∃ fd, FunD K "_law_write_front" "_law_write_front" (defArgs s_law_write_front) (defBody s_law_write_front) (defScope s_law_write_front) [] [] (He.ga K "_law_write_front") fd := T.says.def_ 18 (d := d18) rfl
theorem g_law_write_pieces (T : Tx K mg) : mg "_law_write_pieces" = some (.ref (He.ga K "_law_write_pieces")) := T.glo (T.says.fact 19 (f := .glo "_law_write_pieces") rfl)
theorem fn_law_write_pieces (T : Tx K mg) : ∃ fd, FunD K "_law_write_pieces" "_law_write_pieces" (defArgs s_law_write_pieces) (defBody s_law_write_pieces) (defScope s_law_write_pieces) [] [] (He.ga K "_law_write_pieces") fd := T.says.def_ 19 (d := d19) rfl
theorem g_law_write (T : Tx K mg) : mg "_law_write" = some (.ref (He.ga K "_law_write")) := T.glo (T.says.fact 20 (f := .glo "_law_write") rfl)
theorem fn_law_write (T : Tx K mg) : ∃ fd, FunD K "_law_write" "_law_write" (defArgs s_law_write) (defBody s_law_write) (defScope s_law_write) [] [] (He.ga K "_law_write") fd := T.says.def_ 20 (d := d20) rfl
theorem g_law_written (T : Tx K mg) : mg "_law_written" = some (.ref (He.ga K "_law_written")) := T.glo (T.says.fact 21 (f := .glo "_law_written") rfl)
theorem fn_law_written (T : Tx K mg) : ∃ fd, FunD K "_law_written" "_law_written" (defArgs s_law_written) (defBody s_law_written) (defScope s_law_written) [] [] (He.ga K "_law_written") fd := T.says.def_ 21 (d := d21) rfl
theorem g_law_read_escape (T : Tx K mg) : mg "_law_read_escape" = some (.ref (He.ga K "_law_read_escape")) := T.glo (T.says.fact 22 (f := .glo "_law_read_escape") rfl)
theorem fn_law_read_escape (T : Tx K mg) : ∃ fd, FunD K "_law_read_escape" "_law_read_escape" (defArgs s_law_read_escape) (defBody s_law_read_escape) (defScope s_law_read_escape) [] [] (He.ga K "_law_read_escape") fd := T.says.def_ 22 (d := d22) rfl
theorem g_law_read_runs (T : Tx K mg) : mg "_law_read_runs" = some (.ref (He.ga K "_law_read_runs")) := T.glo (T.says.fact 23 (f := .glo "_law_read_runs") rfl)
theorem fn_law_read_runs (T : Tx K mg) : ∃ fd, FunD K "_law_read_runs" "_law_read_runs" (defArgs s_law_read_runs) (defBody s_law_read_runs) (defScope s_law_read_runs) [] [] (He.ga K "_law_read_runs") fd := T.says.def_ 23 (d := d23) rfl
theorem g_law_read_chunks (T : Tx K mg) : mg "_law_read_chunks" = some (.ref (He.ga K "_law_read_chunks")) := T.glo (T.says.fact 24 (f := .glo "_law_read_chunks") rfl)
theorem fn_law_read_chunks (T : Tx K mg) : ∃ fd, FunD K "_law_read_chunks" "_law_read_chunks" (defArgs s_law_read_chunks) (defBody s_law_read_chunks) (defScope s_law_read_chunks) [] [] (He.ga K "_law_read_chunks") fd := T.says.def_ 24 (d := d24) rfl
theorem g_law_read_checks (T : Tx K mg) : mg "_law_read_checks" = some (.ref (He.ga K "_law_read_checks")) := T.glo (T.says.fact 25 (f := .glo "_law_read_checks") rfl)
theorem fn_law_read_checks (T : Tx K mg) : ∃ fd, FunD K "_law_read_checks" "_law_read_checks" (defArgs s_law_read_checks) (defBody s_law_read_checks) (defScope s_law_read_checks) [] [] (He.ga K "_law_read_checks") fd := T.says.def_ 25 (d := d25) rfl
theorem g_law_read_signs (T : Tx K mg) : mg "_law_read_signs" = some (.ref (He.ga K "_law_read_signs")) := T.glo (T.says.fact 26 (f := .glo "_law_read_signs") rfl)
theorem fn_law_read_signs (T : Tx K mg) : ∃ fd, FunD K "_law_read_signs" "_law_read_signs" (defArgs s_law_read_signs) (defBody s_law_read_signs) (defScope s_law_read_signs) [] [] (He.ga K "_law_read_signs") fd := T.says.def_ 26 (d := d26) rfl
theorem g_law_read (T : Tx K mg) : mg "_law_read" = some (.ref (He.ga K "_law_read")) := T.glo (T.says.fact 27 (f := .glo "_law_read") rfl)
theorem fn_law_read (T : Tx K mg) : ∃ fd, FunD K "_law_read" "_law_read" (defArgs s_law_read) (defBody s_law_read) (defScope s_law_read) [] [] (He.ga K "_law_read") fd := T.says.def_ 27 (d := d27) rfl
theorem g_law_is_row (T : Tx K mg) : mg "_law_is_row" = some (.ref (He.ga K "_law_is_row")) := T.glo (T.says.fact 28 (f := .glo "_law_is_row") rfl)
theorem fn_law_is_row (T : Tx K mg) : ∃ fd, FunD K "_law_is_row" "_law_is_row" (defArgs s_law_is_row) (defBody s_law_is_row) (defScope s_law_is_row) [] [] (He.ga K "_law_is_row") fd := T.says.def_ 28 (d := d28) rfl
theorem g_law_is_told (T : Tx K mg) : mg "_law_is_told" = some (.ref (He.ga K "_law_is_told")) := T.glo (T.says.fact 29 (f := .glo "_law_is_told") rfl)
theorem fn_law_is_told (T : Tx K mg) : ∃ fd, FunD K "_law_is_told" "_law_is_told" (defArgs s_law_is_told) (defBody s_law_is_told) (defScope s_law_is_told) [] [] (He.ga K "_law_is_told") fd := T.says.def_ 29 (d := d29) rfl
theorem g_law_spoiled (T : Tx K mg) : mg "_law_spoiled" = some (.ref (He.ga K "_law_spoiled")) := T.glo (T.says.fact 30 (f := .glo "_law_spoiled") rfl)
theorem fn_law_spoiled (T : Tx K mg) : ∃ fd, FunD K "_law_spoiled" "_law_spoiled" (defArgs s_law_spoiled) (defBody s_law_spoiled) (defScope s_law_spoiled) [] [] (He.ga K "_law_spoiled") fd := T.says.def_ 30 (d := d30) rfl
theorem g_law_all (T : Tx K mg) : mg "_law_all" = some (.ref (He.ga K "_law_all")) := T.glo (T.says.fact 31 (f := .glo "_law_all") rfl)
theorem fn_law_all (T : Tx K mg) : ∃ fd, FunD K "_law_all" "_law_all" (defArgs s_law_all) (defBody s_law_all) (defScope s_law_all) [] [] (He.ga K "_law_all") fd := T.says.def_ 31 (d := d31) rfl
theorem g_law (T : Tx K mg) : mg "law" = some (.ref (He.ga K "law")) := T.glo (T.says.fact 32 (f := .glo "law") rfl)
theorem fn_law (T : Tx K mg) : ∃ fd, FunD K "law" "law" (defArgs s_law) (defBody s_law) (defScope s_law) [] [] (He.ga K "law") fd := T.says.def_ 32 (d := d32) rfl
theorem f_len (T : Tx K mg) : mg "len" = none := T.free (T.says.fact 33 (f := .free "len") rfl)
theorem f_range (T : Tx K mg) : mg "range" = none := T.free (T.says.fact 34 (f := .free "range") rfl)
theorem f_list (T : Tx K mg) : mg "list" = none := T.free (T.says.fact 35 (f := .free "list") rfl)
theorem f_tuple (T : Tx K mg) : mg "tuple" = none := T.free (T.says.fact 36 (f := .free "tuple") rfl)
theorem f_set (T : Tx K mg) : mg "set" = none := T.free (T.says.fact 37 (f := .free "set") rfl)
theorem f_all (T : Tx K mg) : mg "all" = none := T.free (T.says.fact 38 (f := .free "all") rfl)
theorem f_sum (T : Tx K mg) : mg "sum" = none := T.free (T.says.fact 39 (f := .free "sum") rfl)
theorem f_max (T : Tx K mg) : mg "max" = none := T.free (T.says.fact 40 (f := .free "max") rfl)
theorem f_min (T : Tx K mg) : mg "min" = none := T.free (T.says.fact 41 (f := .free "min") rfl)
theorem f_reversed (T : Tx K mg) : mg "reversed" = none := T.free (T.says.fact 42 (f := .free "reversed") rfl)
theorem f_isinstance (T : Tx K mg) : mg "isinstance" = none := T.free (T.says.fact 43 (f := .free "isinstance") rfl)
theorem f_int (T : Tx K mg) : mg "int" = none := T.free (T.says.fact 44 (f := .free "int") rfl)
theorem f_bool (T : Tx K mg) : mg "bool" = none := T.free (T.says.fact 45 (f := .free "bool") rfl)
theorem f_ValueError (T : Tx K mg) : mg "ValueError" = none := T.free (T.says.fact 46 (f := .free "ValueError") rfl)
theorem g_ChunksReader (T : Tx K mg) : mg "ChunksReader" = some (.ref (He.ga K "ChunksReader")) := T.glo (T.says.fact 47 (f := .glo "ChunksReader") rfl)
theorem cl_ChunksReader (T : Tx K mg) : Cls K (He.ga K "ChunksReader") := He.cls_ok (T.says.fact 48 (f := .cls "ChunksReader") rfl)
theorem mk_ChunksReader (T : Tx K mg) : Mk K (He.ga K "ChunksReader") (He.ma K (He.ga K "ChunksReader") "__init__") := He.mkr_ok (T.says.fact 49 (f := .mkr "ChunksReader") rfl)
theorem no_ChunksReader_size (T : Tx K mg) : NoAttr K (He.ga K "ChunksReader") "size" := He.noat_ok (T.says.fact 50 (f := .noat "ChunksReader" "size") rfl)
theorem no_ChunksReader_done (T : Tx K mg) : NoAttr K (He.ga K "ChunksReader") "done" := He.noat_ok (T.says.fact 51 (f := .noat "ChunksReader" "done") rfl)
theorem no_ChunksReader_left (T : Tx K mg) : NoAttr K (He.ga K "ChunksReader") "left" := He.noat_ok (T.says.fact 52 (f := .noat "ChunksReader" "left") rfl)
theorem no_ChunksReader_is_last (T : Tx K mg) : NoAttr K (He.ga K "ChunksReader") "is_last" := He.noat_ok (T.says.fact 53 (f := .noat "ChunksReader" "is_last") rfl)
theorem me_ChunksReader_init (T : Tx K mg) : Meth K (He.ga K "ChunksReader") "__init__" (He.ma K (He.ga K "ChunksReader") "__init__") := He.meth_ok (T.says.fact 54 (f := .meth "ChunksReader" "__init__") rfl)
theorem fn_ChunksReader_init (T : Tx K mg) : ∃ fd, FunD K "__init__" "ChunksReader.__init__" (defArgs s_ChunksReader_init) (defBody s_ChunksReader_init) (defScope s_ChunksReader_init) [] [] (He.ma K (He.ga K "ChunksReader") "__init__") fd := T.says.def_ 33 (d := d33) rfl
theorem me_ChunksReader_take (T : Tx K mg) : Meth K (He.ga K "ChunksReader") "take" (He.ma K (He.ga K "ChunksReader") "take") := He.meth_ok (T.says.fact 55 (f := .meth "ChunksReader" "take") rfl)
theorem fn_ChunksReader_take (T : Tx K mg) : ∃ fd, FunD K "take" "ChunksReader.take" (defArgs s_ChunksReader_take) (defBody s_ChunksReader_take) (defScope s_ChunksReader_take) [] [] (He.ma K (He.ga K "ChunksReader") "take") fd := T.says.def_ 34 (d := d34) rfl
theorem me_ChunksReader_end (T : Tx K mg) : Meth K (He.ga K "ChunksReader") "end" (He.ma K (He.ga K "ChunksReader") "end") := He.meth_ok (T.says.fact 56 (f := .meth "ChunksReader" "end") rfl)
theorem fn_ChunksReader_end (T : Tx K mg) : ∃ fd, FunD K "end" "ChunksReader.end" (defArgs s_ChunksReader_end) (defBody s_ChunksReader_end) (defScope s_ChunksReader_end) [] [] (He.ma K (He.ga K "ChunksReader") "end") fd := T.says.def_ 35 (d := d35) rfl
theorem g_ChecksReader (T : Tx K mg) : mg "ChecksReader" = some (.ref (He.ga K "ChecksReader")) := T.glo (T.says.fact 57 (f := .glo "ChecksReader") rfl)
theorem cl_ChecksReader (T : Tx K mg) : Cls K (He.ga K "ChecksReader") := He.cls_ok (T.says.fact 58 (f := .cls "ChecksReader") rfl)
theorem mk_ChecksReader (T : Tx K mg) : Mk K (He.ga K "ChecksReader") (He.ma K (He.ga K "ChecksReader") "__init__") := He.mkr_ok (T.says.fact 59 (f := .mkr "ChecksReader") rfl)
theorem no_ChecksReader_size (T : Tx K mg) : NoAttr K (He.ga K "ChecksReader") "size" := He.noat_ok (T.says.fact 60 (f := .noat "ChecksReader" "size") rfl)
theorem no_ChecksReader_done (T : Tx K mg) : NoAttr K (He.ga K "ChecksReader") "done" := He.noat_ok (T.says.fact 61 (f := .noat "ChecksReader" "done") rfl)
theorem no_ChecksReader_check (T : Tx K mg) : NoAttr K (He.ga K "ChecksReader") "check" := He.noat_ok (T.says.fact 62 (f := .noat "ChecksReader" "check") rfl)
theorem no_ChecksReader_held (T : Tx K mg) : NoAttr K (He.ga K "ChecksReader") "held" := He.noat_ok (T.says.fact 63 (f := .noat "ChecksReader" "held") rfl)
theorem me_ChecksReader_init (T : Tx K mg) : Meth K (He.ga K "ChecksReader") "__init__" (He.ma K (He.ga K "ChecksReader") "__init__") := He.meth_ok (T.says.fact 64 (f := .meth "ChecksReader" "__init__") rfl)
theorem fn_ChecksReader_init (T : Tx K mg) : ∃ fd, FunD K "__init__" "ChecksReader.__init__" (defArgs s_ChecksReader_init) (defBody s_ChecksReader_init) (defScope s_ChecksReader_init) [] [] (He.ma K (He.ga K "ChecksReader") "__init__") fd := T.says.def_ 36 (d := d36) rfl
theorem me_ChecksReader_block (T : Tx K mg) : Meth K (He.ga K "ChecksReader") "block" (He.ma K (He.ga K "ChecksReader") "block") := He.meth_ok (T.says.fact 65 (f := .meth "ChecksReader" "block") rfl)
theorem fn_ChecksReader_block (T : Tx K mg) : ∃ fd, FunD K "block" "ChecksReader.block" (defArgs s_ChecksReader_block) (defBody s_ChecksReader_block) (defScope s_ChecksReader_block) [] [] (He.ma K (He.ga K "ChecksReader") "block") fd := T.says.def_ 37 (d := d37) rfl
theorem me_ChecksReader_take (T : Tx K mg) : Meth K (He.ga K "ChecksReader") "take" (He.ma K (He.ga K "ChecksReader") "take") := He.meth_ok (T.says.fact 66 (f := .meth "ChecksReader" "take") rfl)
theorem fn_ChecksReader_take (T : Tx K mg) : ∃ fd, FunD K "take" "ChecksReader.take" (defArgs s_ChecksReader_take) (defBody s_ChecksReader_take) (defScope s_ChecksReader_take) [] [] (He.ma K (He.ga K "ChecksReader") "take") fd := T.says.def_ 38 (d := d38) rfl
theorem me_ChecksReader_end (T : Tx K mg) : Meth K (He.ga K "ChecksReader") "end" (He.ma K (He.ga K "ChecksReader") "end") := He.meth_ok (T.says.fact 67 (f := .meth "ChecksReader" "end") rfl)
theorem fn_ChecksReader_end (T : Tx K mg) : ∃ fd, FunD K "end" "ChecksReader.end" (defArgs s_ChecksReader_end) (defBody s_ChecksReader_end) (defScope s_ChecksReader_end) [] [] (He.ma K (He.ga K "ChecksReader") "end") fd := T.says.def_ 39 (d := d39) rfl
theorem g_EscapeReader (T : Tx K mg) : mg "EscapeReader" = some (.ref (He.ga K "EscapeReader")) := T.glo (T.says.fact 68 (f := .glo "EscapeReader") rfl)
theorem cl_EscapeReader (T : Tx K mg) : Cls K (He.ga K "EscapeReader") := He.cls_ok (T.says.fact 69 (f := .cls "EscapeReader") rfl)
theorem mk_EscapeReader (T : Tx K mg) : Mk K (He.ga K "EscapeReader") (He.ma K (He.ga K "EscapeReader") "__init__") := He.mkr_ok (T.says.fact 70 (f := .mkr "EscapeReader") rfl)
theorem no_EscapeReader_marks (T : Tx K mg) : NoAttr K (He.ga K "EscapeReader") "marks" := He.noat_ok (T.says.fact 71 (f := .noat "EscapeReader" "marks") rfl)
theorem no_EscapeReader_done (T : Tx K mg) : NoAttr K (He.ga K "EscapeReader") "done" := He.noat_ok (T.says.fact 72 (f := .noat "EscapeReader" "done") rfl)
theorem no_EscapeReader_marked (T : Tx K mg) : NoAttr K (He.ga K "EscapeReader") "marked" := He.noat_ok (T.says.fact 73 (f := .noat "EscapeReader" "marked") rfl)
theorem me_EscapeReader_init (T : Tx K mg) : Meth K (He.ga K "EscapeReader") "__init__" (He.ma K (He.ga K "EscapeReader") "__init__") := He.meth_ok (T.says.fact 74 (f := .meth "EscapeReader" "__init__") rfl)
theorem fn_EscapeReader_init (T : Tx K mg) : ∃ fd, FunD K "__init__" "EscapeReader.__init__" (defArgs s_EscapeReader_init) (defBody s_EscapeReader_init) (defScope s_EscapeReader_init) [] [] (He.ma K (He.ga K "EscapeReader") "__init__") fd := T.says.def_ 40 (d := d40) rfl
theorem me_EscapeReader_take (T : Tx K mg) : Meth K (He.ga K "EscapeReader") "take" (He.ma K (He.ga K "EscapeReader") "take") := He.meth_ok (T.says.fact 75 (f := .meth "EscapeReader" "take") rfl)
theorem fn_EscapeReader_take (T : Tx K mg) : ∃ fd, FunD K "take" "EscapeReader.take" (defArgs s_EscapeReader_take) (defBody s_EscapeReader_take) (defScope s_EscapeReader_take) [] [] (He.ma K (He.ga K "EscapeReader") "take") fd := T.says.def_ 41 (d := d41) rfl
theorem me_EscapeReader_end (T : Tx K mg) : Meth K (He.ga K "EscapeReader") "end" (He.ma K (He.ga K "EscapeReader") "end") := He.meth_ok (T.says.fact 76 (f := .meth "EscapeReader" "end") rfl)
theorem fn_EscapeReader_end (T : Tx K mg) : ∃ fd, FunD K "end" "EscapeReader.end" (defArgs s_EscapeReader_end) (defBody s_EscapeReader_end) (defScope s_EscapeReader_end) [] [] (He.ma K (He.ga K "EscapeReader") "end") fd := T.says.def_ 42 (d := d42) rfl
theorem g_RunsReader (T : Tx K mg) : mg "RunsReader" = some (.ref (He.ga K "RunsReader")) := T.glo (T.says.fact 77 (f := .glo "RunsReader") rfl)
theorem cl_RunsReader (T : Tx K mg) : Cls K (He.ga K "RunsReader") := He.cls_ok (T.says.fact 78 (f := .cls "RunsReader") rfl)
theorem mk_RunsReader (T : Tx K mg) : Mk K (He.ga K "RunsReader") (He.ma K (He.ga K "RunsReader") "__init__") := He.mkr_ok (T.says.fact 79 (f := .mkr "RunsReader") rfl)
theorem no_RunsReader_done (T : Tx K mg) : NoAttr K (He.ga K "RunsReader") "done" := He.noat_ok (T.says.fact 80 (f := .noat "RunsReader" "done") rfl)
theorem no_RunsReader_many (T : Tx K mg) : NoAttr K (He.ga K "RunsReader") "many" := He.noat_ok (T.says.fact 81 (f := .noat "RunsReader" "many") rfl)
theorem no_RunsReader_last (T : Tx K mg) : NoAttr K (He.ga K "RunsReader") "last" := He.noat_ok (T.says.fact 82 (f := .noat "RunsReader" "last") rfl)
theorem me_RunsReader_init (T : Tx K mg) : Meth K (He.ga K "RunsReader") "__init__" (He.ma K (He.ga K "RunsReader") "__init__") := He.meth_ok (T.says.fact 83 (f := .meth "RunsReader" "__init__") rfl)
theorem fn_RunsReader_init (T : Tx K mg) : ∃ fd, FunD K "__init__" "RunsReader.__init__" (defArgs s_RunsReader_init) (defBody s_RunsReader_init) (defScope s_RunsReader_init) [] [] (He.ma K (He.ga K "RunsReader") "__init__") fd := T.says.def_ 43 (d := d43) rfl
theorem me_RunsReader_take (T : Tx K mg) : Meth K (He.ga K "RunsReader") "take" (He.ma K (He.ga K "RunsReader") "take") := He.meth_ok (T.says.fact 84 (f := .meth "RunsReader" "take") rfl)
theorem fn_RunsReader_take (T : Tx K mg) : ∃ fd, FunD K "take" "RunsReader.take" (defArgs s_RunsReader_take) (defBody s_RunsReader_take) (defScope s_RunsReader_take) [] [] (He.ma K (He.ga K "RunsReader") "take") fd := T.says.def_ 44 (d := d44) rfl
theorem me_RunsReader_end (T : Tx K mg) : Meth K (He.ga K "RunsReader") "end" (He.ma K (He.ga K "RunsReader") "end") := He.meth_ok (T.says.fact 85 (f := .meth "RunsReader" "end") rfl)
theorem fn_RunsReader_end (T : Tx K mg) : ∃ fd, FunD K "end" "RunsReader.end" (defArgs s_RunsReader_end) (defBody s_RunsReader_end) (defScope s_RunsReader_end) [] [] (He.ma K (He.ga K "RunsReader") "end") fd := T.says.def_ 45 (d := d45) rfl
theorem g_SignsReader (T : Tx K mg) : mg "SignsReader" = some (.ref (He.ga K "SignsReader")) := T.glo (T.says.fact 86 (f := .glo "SignsReader") rfl)
theorem cl_SignsReader (T : Tx K mg) : Cls K (He.ga K "SignsReader") := He.cls_ok (T.says.fact 87 (f := .cls "SignsReader") rfl)
theorem mk_SignsReader (T : Tx K mg) : Mk K (He.ga K "SignsReader") (He.ma K (He.ga K "SignsReader") "__init__") := He.mkr_ok (T.says.fact 88 (f := .mkr "SignsReader") rfl)
theorem no_SignsReader_done (T : Tx K mg) : NoAttr K (He.ga K "SignsReader") "done" := He.noat_ok (T.says.fact 89 (f := .noat "SignsReader" "done") rfl)
theorem no_SignsReader_many (T : Tx K mg) : NoAttr K (He.ga K "SignsReader") "many" := He.noat_ok (T.says.fact 90 (f := .noat "SignsReader" "many") rfl)
theorem no_SignsReader_value (T : Tx K mg) : NoAttr K (He.ga K "SignsReader") "value" := He.noat_ok (T.says.fact 91 (f := .noat "SignsReader" "value") rfl)
theorem me_SignsReader_init (T : Tx K mg) : Meth K (He.ga K "SignsReader") "__init__" (He.ma K (He.ga K "SignsReader") "__init__") := He.meth_ok (T.says.fact 92 (f := .meth "SignsReader" "__init__") rfl)
theorem fn_SignsReader_init (T : Tx K mg) : ∃ fd, FunD K "__init__" "SignsReader.__init__" (defArgs s_SignsReader_init) (defBody s_SignsReader_init) (defScope s_SignsReader_init) [] [] (He.ma K (He.ga K "SignsReader") "__init__") fd := T.says.def_ 46 (d := d46) rfl
theorem me_SignsReader_take (T : Tx K mg) : Meth K (He.ga K "SignsReader") "take" (He.ma K (He.ga K "SignsReader") "take") := He.meth_ok (T.says.fact 93 (f := .meth "SignsReader" "take") rfl)
theorem fn_SignsReader_take (T : Tx K mg) : ∃ fd, FunD K "take" "SignsReader.take" (defArgs s_SignsReader_take) (defBody s_SignsReader_take) (defScope s_SignsReader_take) [] [] (He.ma K (He.ga K "SignsReader") "take") fd := T.says.def_ 47 (d := d47) rfl
theorem me_SignsReader_end (T : Tx K mg) : Meth K (He.ga K "SignsReader") "end" (He.ma K (He.ga K "SignsReader") "end") := He.meth_ok (T.says.fact 94 (f := .meth "SignsReader" "end") rfl)
theorem fn_SignsReader_end (T : Tx K mg) : ∃ fd, FunD K "end" "SignsReader.end" (defArgs s_SignsReader_end) (defBody s_SignsReader_end) (defScope s_SignsReader_end) [] [] (He.ma K (He.ga K "SignsReader") "end") fd := T.says.def_ 48 (d := d48) rfl
theorem g_AddWriter (T : Tx K mg) : mg "AddWriter" = some (.ref (He.ga K "AddWriter")) := T.glo (T.says.fact 95 (f := .glo "AddWriter") rfl)
theorem cl_AddWriter (T : Tx K mg) : Cls K (He.ga K "AddWriter") := He.cls_ok (T.says.fact 96 (f := .cls "AddWriter") rfl)
theorem mk_AddWriter (T : Tx K mg) : Mk K (He.ga K "AddWriter") (He.ma K (He.ga K "AddWriter") "__init__") := He.mkr_ok (T.says.fact 97 (f := .mkr "AddWriter") rfl)
theorem no_AddWriter_key (T : Tx K mg) : NoAttr K (He.ga K "AddWriter") "key" := He.noat_ok (T.says.fact 98 (f := .noat "AddWriter" "key") rfl)
theorem no_AddWriter_at (T : Tx K mg) : NoAttr K (He.ga K "AddWriter") "at" := He.noat_ok (T.says.fact 99 (f := .noat "AddWriter" "at") rfl)
theorem me_AddWriter_init (T : Tx K mg) : Meth K (He.ga K "AddWriter") "__init__" (He.ma K (He.ga K "AddWriter") "__init__") := He.meth_ok (T.says.fact 100 (f := .meth "AddWriter" "__init__") rfl)
theorem fn_AddWriter_init (T : Tx K mg) : ∃ fd, FunD K "__init__" "AddWriter.__init__" (defArgs s_AddWriter_init) (defBody s_AddWriter_init) (defScope s_AddWriter_init) [] [] (He.ma K (He.ga K "AddWriter") "__init__") fd := T.says.def_ 49 (d := d49) rfl
theorem me_AddWriter_turned (T : Tx K mg) : Meth K (He.ga K "AddWriter") "turned" (He.ma K (He.ga K "AddWriter") "turned") := He.meth_ok (T.says.fact 101 (f := .meth "AddWriter" "turned") rfl)
theorem fn_AddWriter_turned (T : Tx K mg) : ∃ fd, FunD K "turned" "AddWriter.turned" (defArgs s_AddWriter_turned) (defBody s_AddWriter_turned) (defScope s_AddWriter_turned) [] [] (He.ma K (He.ga K "AddWriter") "turned") fd := T.says.def_ 50 (d := d50) rfl
theorem me_AddWriter_take (T : Tx K mg) : Meth K (He.ga K "AddWriter") "take" (He.ma K (He.ga K "AddWriter") "take") := He.meth_ok (T.says.fact 102 (f := .meth "AddWriter" "take") rfl)
theorem fn_AddWriter_take (T : Tx K mg) : ∃ fd, FunD K "take" "AddWriter.take" (defArgs s_AddWriter_take) (defBody s_AddWriter_take) (defScope s_AddWriter_take) [] [] (He.ma K (He.ga K "AddWriter") "take") fd := T.says.def_ 51 (d := d51) rfl
theorem me_AddWriter_end (T : Tx K mg) : Meth K (He.ga K "AddWriter") "end" (He.ma K (He.ga K "AddWriter") "end") := He.meth_ok (T.says.fact 103 (f := .meth "AddWriter" "end") rfl)
theorem fn_AddWriter_end (T : Tx K mg) : ∃ fd, FunD K "end" "AddWriter.end" (defArgs s_AddWriter_end) (defBody s_AddWriter_end) (defScope s_AddWriter_end) [] [] (He.ma K (He.ga K "AddWriter") "end") fd := T.says.def_ 52 (d := d52) rfl
theorem g_AddReader (T : Tx K mg) : mg "AddReader" = some (.ref (He.ga K "AddReader")) := T.glo (T.says.fact 104 (f := .glo "AddReader") rfl)
theorem cl_AddReader (T : Tx K mg) : Cls K (He.ga K "AddReader") := He.cls_ok (T.says.fact 105 (f := .cls "AddReader") rfl)
theorem mk_AddReader (T : Tx K mg) : Mk K (He.ga K "AddReader") (He.ma K (He.ga K "AddReader") "__init__") := He.mkr_ok (T.says.fact 106 (f := .mkr "AddReader") rfl)
theorem no_AddReader_key (T : Tx K mg) : NoAttr K (He.ga K "AddReader") "key" := He.noat_ok (T.says.fact 107 (f := .noat "AddReader" "key") rfl)
theorem no_AddReader_at (T : Tx K mg) : NoAttr K (He.ga K "AddReader") "at" := He.noat_ok (T.says.fact 108 (f := .noat "AddReader" "at") rfl)
theorem me_AddReader_turned (T : Tx K mg) : Meth K (He.ga K "AddReader") "turned" (He.ma K (He.ga K "AddReader") "turned") := He.meth_ok (T.says.fact 109 (f := .meth "AddReader" "turned") rfl)
theorem fn_AddReader_turned (T : Tx K mg) : ∃ fd, FunD K "turned" "AddReader.turned" (defArgs s_AddReader_turned) (defBody s_AddReader_turned) (defScope s_AddReader_turned) [] [] (He.ma K (He.ga K "AddReader") "turned") fd := T.says.def_ 53 (d := d53) rfl
theorem me_AddReader_init (T : Tx K mg) : Meth K (He.ga K "AddReader") "__init__" (He.ma K (He.ga K "AddReader") "__init__") := He.meth_ok (T.says.fact 110 (f := .meth "AddReader" "__init__") rfl)
theorem fn_AddReader_init (T : Tx K mg) : ∃ fd, FunD K "__init__" "AddWriter.__init__" (defArgs s_AddWriter_init) (defBody s_AddWriter_init) (defScope s_AddWriter_init) [] [] (He.ma K (He.ga K "AddReader") "__init__") fd := T.says.def_ 54 (d := d54) rfl
theorem me_AddReader_take (T : Tx K mg) : Meth K (He.ga K "AddReader") "take" (He.ma K (He.ga K "AddReader") "take") := He.meth_ok (T.says.fact 111 (f := .meth "AddReader" "take") rfl)
theorem fn_AddReader_take (T : Tx K mg) : ∃ fd, FunD K "take" "AddWriter.take" (defArgs s_AddWriter_take) (defBody s_AddWriter_take) (defScope s_AddWriter_take) [] [] (He.ma K (He.ga K "AddReader") "take") fd := T.says.def_ 55 (d := d55) rfl
theorem me_AddReader_end (T : Tx K mg) : Meth K (He.ga K "AddReader") "end" (He.ma K (He.ga K "AddReader") "end") := He.meth_ok (T.says.fact 112 (f := .meth "AddReader" "end") rfl)
theorem fn_AddReader_end (T : Tx K mg) : ∃ fd, FunD K "end" "AddWriter.end" (defArgs s_AddWriter_end) (defBody s_AddWriter_end) (defScope s_AddWriter_end) [] [] (He.ma K (He.ga K "AddReader") "end") fd := T.says.def_ 56 (d := d56) rfl
theorem g_FrontWriter (T : Tx K mg) : mg "FrontWriter" = some (.ref (He.ga K "FrontWriter")) := T.glo (T.says.fact 113 (f := .glo "FrontWriter") rfl)
theorem cl_FrontWriter (T : Tx K mg) : Cls K (He.ga K "FrontWriter") := He.cls_ok (T.says.fact 114 (f := .cls "FrontWriter") rfl)
theorem mk_FrontWriter (T : Tx K mg) : Mk K (He.ga K "FrontWriter") (He.ma K (He.ga K "FrontWriter") "__init__") := He.mkr_ok (T.says.fact 115 (f := .mkr "FrontWriter") rfl)
theorem no_FrontWriter_row (T : Tx K mg) : NoAttr K (He.ga K "FrontWriter") "row" := He.noat_ok (T.says.fact 116 (f := .noat "FrontWriter" "row") rfl)
theorem me_FrontWriter_init (T : Tx K mg) : Meth K (He.ga K "FrontWriter") "__init__" (He.ma K (He.ga K "FrontWriter") "__init__") := He.meth_ok (T.says.fact 117 (f := .meth "FrontWriter" "__init__") rfl)
theorem fn_FrontWriter_init (T : Tx K mg) : ∃ fd, FunD K "__init__" "FrontWriter.__init__" (defArgs s_FrontWriter_init) (defBody s_FrontWriter_init) (defScope s_FrontWriter_init) [] [] (He.ma K (He.ga K "FrontWriter") "__init__") fd := T.says.def_ 57 (d := d57) rfl
theorem me_FrontWriter_to_front (T : Tx K mg) : Meth K (He.ga K "FrontWriter") "to_front" (He.ma K (He.ga K "FrontWriter") "to_front") := He.meth_ok (T.says.fact 118 (f := .meth "FrontWriter" "to_front") rfl)
theorem fn_FrontWriter_to_front (T : Tx K mg) : ∃ fd, FunD K "to_front" "FrontWriter.to_front" (defArgs s_FrontWriter_to_front) (defBody s_FrontWriter_to_front) (defScope s_FrontWriter_to_front) [] [] (He.ma K (He.ga K "FrontWriter") "to_front") fd := T.says.def_ 58 (d := d58) rfl
theorem me_FrontWriter_take (T : Tx K mg) : Meth K (He.ga K "FrontWriter") "take" (He.ma K (He.ga K "FrontWriter") "take") := He.meth_ok (T.says.fact 119 (f := .meth "FrontWriter" "take") rfl)
theorem fn_FrontWriter_take (T : Tx K mg) : ∃ fd, FunD K "take" "FrontWriter.take" (defArgs s_FrontWriter_take) (defBody s_FrontWriter_take) (defScope s_FrontWriter_take) [] [] (He.ma K (He.ga K "FrontWriter") "take") fd := T.says.def_ 59 (d := d59) rfl
theorem me_FrontWriter_end (T : Tx K mg) : Meth K (He.ga K "FrontWriter") "end" (He.ma K (He.ga K "FrontWriter") "end") := He.meth_ok (T.says.fact 120 (f := .meth "FrontWriter" "end") rfl)
theorem fn_FrontWriter_end (T : Tx K mg) : ∃ fd, FunD K "end" "FrontWriter.end" (defArgs s_FrontWriter_end) (defBody s_FrontWriter_end) (defScope s_FrontWriter_end) [] [] (He.ma K (He.ga K "FrontWriter") "end") fd := T.says.def_ 60 (d := d60) rfl
theorem g_FrontReader (T : Tx K mg) : mg "FrontReader" = some (.ref (He.ga K "FrontReader")) := T.glo (T.says.fact 121 (f := .glo "FrontReader") rfl)
theorem cl_FrontReader (T : Tx K mg) : Cls K (He.ga K "FrontReader") := He.cls_ok (T.says.fact 122 (f := .cls "FrontReader") rfl)
theorem mk_FrontReader (T : Tx K mg) : Mk K (He.ga K "FrontReader") (He.ma K (He.ga K "FrontReader") "__init__") := He.mkr_ok (T.says.fact 123 (f := .mkr "FrontReader") rfl)
theorem no_FrontReader_row (T : Tx K mg) : NoAttr K (He.ga K "FrontReader") "row" := He.noat_ok (T.says.fact 124 (f := .noat "FrontReader" "row") rfl)
theorem me_FrontReader_take (T : Tx K mg) : Meth K (He.ga K "FrontReader") "take" (He.ma K (He.ga K "FrontReader") "take") := He.meth_ok (T.says.fact 125 (f := .meth "FrontReader" "take") rfl)
theorem fn_FrontReader_take (T : Tx K mg) : ∃ fd, FunD K "take" "FrontReader.take" (defArgs s_FrontReader_take) (defBody s_FrontReader_take) (defScope s_FrontReader_take) [] [] (He.ma K (He.ga K "FrontReader") "take") fd := T.says.def_ 61 (d := d61) rfl
theorem me_FrontReader_init (T : Tx K mg) : Meth K (He.ga K "FrontReader") "__init__" (He.ma K (He.ga K "FrontReader") "__init__") := He.meth_ok (T.says.fact 126 (f := .meth "FrontReader" "__init__") rfl)
theorem fn_FrontReader_init (T : Tx K mg) : ∃ fd, FunD K "__init__" "FrontWriter.__init__" (defArgs s_FrontWriter_init) (defBody s_FrontWriter_init) (defScope s_FrontWriter_init) [] [] (He.ma K (He.ga K "FrontReader") "__init__") fd := T.says.def_ 62 (d := d62) rfl
theorem me_FrontReader_to_front (T : Tx K mg) : Meth K (He.ga K "FrontReader") "to_front" (He.ma K (He.ga K "FrontReader") "to_front") := He.meth_ok (T.says.fact 127 (f := .meth "FrontReader" "to_front") rfl)
theorem fn_FrontReader_to_front (T : Tx K mg) : ∃ fd, FunD K "to_front" "FrontWriter.to_front" (defArgs s_FrontWriter_to_front) (defBody s_FrontWriter_to_front) (defScope s_FrontWriter_to_front) [] [] (He.ma K (He.ga K "FrontReader") "to_front") fd := T.says.def_ 63 (d := d63) rfl
theorem me_FrontReader_end (T : Tx K mg) : Meth K (He.ga K "FrontReader") "end" (He.ma K (He.ga K "FrontReader") "end") := He.meth_ok (T.says.fact 128 (f := .meth "FrontReader" "end") rfl)
theorem fn_FrontReader_end (T : Tx K mg) : ∃ fd, FunD K "end" "FrontWriter.end" (defArgs s_FrontWriter_end) (defBody s_FrontWriter_end) (defScope s_FrontWriter_end) [] [] (He.ma K (He.ga K "FrontReader") "end") fd := T.says.def_ 64 (d := d64) rfl
theorem g_Reader (T : Tx K mg) : mg "Reader" = some (.ref (He.ga K "Reader")) := T.glo (T.says.fact 129 (f := .glo "Reader") rfl)
theorem cl_Reader (T : Tx K mg) : Cls K (He.ga K "Reader") := He.cls_ok (T.says.fact 130 (f := .cls "Reader") rfl)
theorem mk_Reader (T : Tx K mg) : Mk K (He.ga K "Reader") (He.ma K (He.ga K "Reader") "__init__") := He.mkr_ok (T.says.fact 131 (f := .mkr "Reader") rfl)
theorem no_Reader_parts (T : Tx K mg) : NoAttr K (He.ga K "Reader") "parts" := He.noat_ok (T.says.fact 132 (f := .noat "Reader" "parts") rfl)
theorem no_Reader_fault (T : Tx K mg) : NoAttr K (He.ga K "Reader") "fault" := He.noat_ok (T.says.fact 133 (f := .noat "Reader" "fault") rfl)
theorem me_Reader_init (T : Tx K mg) : Meth K (He.ga K "Reader") "__init__" (He.ma K (He.ga K "Reader") "__init__") := He.meth_ok (T.says.fact 134 (f := .meth "Reader" "__init__") rfl)
theorem fn_Reader_init (T : Tx K mg) : ∃ fd, FunD K "__init__" "Reader.__init__" (defArgs s_Reader_init) (defBody s_Reader_init) (defScope s_Reader_init) [] [] (He.ma K (He.ga K "Reader") "__init__") fd := T.says.def_ 65 (d := d65) rfl
theorem me_Reader_one (T : Tx K mg) : Meth K (He.ga K "Reader") "one" (He.ma K (He.ga K "Reader") "one") := He.meth_ok (T.says.fact 135 (f := .meth "Reader" "one") rfl)
theorem fn_Reader_one (T : Tx K mg) : ∃ fd, FunD K "one" "Reader.one" (defArgs s_Reader_one) (defBody s_Reader_one) (defScope s_Reader_one) [] [] (He.ma K (He.ga K "Reader") "one") fd := T.says.def_ 66 (d := d66) rfl
theorem me_Reader_take (T : Tx K mg) : Meth K (He.ga K "Reader") "take" (He.ma K (He.ga K "Reader") "take") := He.meth_ok (T.says.fact 136 (f := .meth "Reader" "take") rfl)
theorem fn_Reader_take (T : Tx K mg) : ∃ fd, FunD K "take" "Reader.take" (defArgs s_Reader_take) (defBody s_Reader_take) (defScope s_Reader_take) [] [] (He.ma K (He.ga K "Reader") "take") fd := T.says.def_ 67 (d := d67) rfl
theorem me_Reader_end (T : Tx K mg) : Meth K (He.ga K "Reader") "end" (He.ma K (He.ga K "Reader") "end") := He.meth_ok (T.says.fact 137 (f := .meth "Reader" "end") rfl)
theorem fn_Reader_end (T : Tx K mg) : ∃ fd, FunD K "end" "Reader.end" (defArgs s_Reader_end) (defBody s_Reader_end) (defScope s_Reader_end) [] [] (He.ma K (He.ga K "Reader") "end") fd := T.says.def_ 68 (d := d68) rfl
theorem me_Reader_closing (T : Tx K mg) : Meth K (He.ga K "Reader") "closing" (He.ma K (He.ga K "Reader") "closing") := He.meth_ok (T.says.fact 138 (f := .meth "Reader" "closing") rfl)
theorem fn_Reader_closing (T : Tx K mg) : ∃ fd, FunD K "closing" "Reader.closing" (defArgs s_Reader_closing) (defBody s_Reader_closing) (defScope s_Reader_closing) [] [] (He.ma K (He.ga K "Reader") "closing") fd := T.says.def_ 69 (d := d69) rfl
theorem g_FlowError (T : Tx K mg) : mg "FlowError" = some (.ref (He.ga K "FlowError")) := T.glo (T.says.fact 139 (f := .glo "FlowError") rfl)
theorem g_BadLayer (T : Tx K mg) : mg "BadLayer" = some (.ref (He.ga K "BadLayer")) := T.glo (T.says.fact 140 (f := .glo "BadLayer") rfl)
theorem xc_BadLayer (T : Tx K mg) : PySem.W.excIn K (He.ga K "BadLayer") He.veBase "ValueError.__new__" = true ∧ PySem.W.keepIn K (.ref (He.ga K "BadLayer")) = true ∧ PySem.W.subIn K (.ref (He.ga K "BadLayer")) (.type "BaseException") = some true ∧ PySem.W.typeIn K (.ref (He.ga K "BadLayer")) = some (.type "type") := He.exc_ok (T.says.fact 141 (f := .exc "BadLayer") rfl)
theorem g_Wrong (T : Tx K mg) : mg "Wrong" = some (.ref (He.ga K "Wrong")) := T.glo (T.says.fact 142 (f := .glo "Wrong") rfl)
theorem no_Wrong_place (T : Tx K mg) : PySem.W.findIn K (.ref (He.ga K "Wrong")) "place" = some none := He.noat_ok (T.says.fact 143 (f := .noat "Wrong" "place") rfl)
theorem me_Wrong_init (T : Tx K mg) : Meth K (He.ga K "Wrong") "__init__" (He.ma K (He.ga K "Wrong") "__init__") := He.meth_ok (T.says.fact 144 (f := .meth "Wrong" "__init__") rfl)
theorem fn_Wrong_init (T : Tx K mg) : ∃ fd, FunD K "__init__" "Wrong.__init__" (defArgs s_Wrong_init) (defBody s_Wrong_init) (defScope s_Wrong_init) [] [] (He.ma K (He.ga K "Wrong") "__init__") fd := T.says.def_ 70 (d := d70) rfl
theorem g_Cut (T : Tx K mg) : mg "Cut" = some (.ref (He.ga K "Cut")) := T.glo (T.says.fact 145 (f := .glo "Cut") rfl)
theorem xc_Cut (T : Tx K mg) : PySem.W.excIn K (He.ga K "Cut") He.veBase "ValueError.__new__" = true ∧ PySem.W.keepIn K (.ref (He.ga K "Cut")) = true ∧ PySem.W.subIn K (.ref (He.ga K "Cut")) (.type "BaseException") = some true ∧ PySem.W.typeIn K (.ref (He.ga K "Cut")) = some (.type "type") := He.exc_ok (T.says.fact 146 (f := .exc "Cut") rfl)
theorem xm_Wrong_Wrong (T : Tx K mg) : PySem.W.exmOne K (.ref (He.ga K "Wrong")) (.ref (He.ga K "Wrong")) = some true := He.exm_ok (T.says.fact 147 (f := .exm "Wrong" "Wrong" true) rfl)
theorem xm_Cut_Wrong (T : Tx K mg) : PySem.W.exmOne K (.ref (He.ga K "Cut")) (.ref (He.ga K "Wrong")) = some false := He.exm_ok (T.says.fact 148 (f := .exm "Cut" "Wrong" false) rfl)
theorem xm_Cut_Cut (T : Tx K mg) : PySem.W.exmOne K (.ref (He.ga K "Cut")) (.ref (He.ga K "Cut")) = some true := He.exm_ok (T.says.fact 149 (f := .exm "Cut" "Cut" true) rfl)
theorem xm_BadLayer_FlowError (T : Tx K mg) : PySem.W.exmOne K (.ref (He.ga K "BadLayer")) (.ref (He.ga K "FlowError")) = some true := He.exm_ok (T.says.fact 150 (f := .exm "BadLayer" "FlowError" true) rfl)
theorem c_PRIME (T : Tx K mg) : ∃ t, mg "PRIME" = some (.int 65521 t) := T.int (T.says.fact 151 (f := .int "PRIME" 65521) rfl)
theorem c_FACTOR (T : Tx K mg) : ∃ t, mg "FACTOR" = some (.int 257 t) := T.int (T.says.fact 152 (f := .int "FACTOR" 257) rfl)
theorem c_LONGEST (T : Tx K mg) : ∃ t, mg "LONGEST" = some (.int 255 t) := T.int (T.says.fact 153 (f := .int "LONGEST" 255) rfl)
theorem g_POWERS (T : Tx K mg) : mg "POWERS" = some (.ref (He.ga K "POWERS")) := T.glo (T.says.fact 154 (f := .glo "POWERS") rfl)
theorem g_SIGNS (T : Tx K mg) : mg "SIGNS" = some (.ref (He.ga K "SIGNS")) := T.glo (T.says.fact 155 (f := .glo "SIGNS") rfl)
theorem c_MOST (T : Tx K mg) : ∃ t, mg "MOST" = some (.int 8 t) := T.int (T.says.fact 156 (f := .int "MOST" 8) rfl)
theorem oex_Wrong (T : Tx K mg) : OexC K (He.ga K "Wrong") := oexB_ok (He.ba T.more).1
theorem xf_Wrong (T : Tx K mg) : XfC K (He.ga K "Wrong") := xfB_ok (He.ba (He.ba T.more).2).1
theorem t_POWERS (T : Tx K mg) : ∀ H : Hp, SqT K H (He.ga K "POWERS") (powersT.map V.int) := fun H => dvInts powersT ▸ He.tupB_ok (He.ba (He.ba (He.ba T.more).2).2).1 H
theorem nd_SIGNS (T : Tx K mg) : ∃ o, K.lookup (He.ga K "SIGNS") = some o ∧ o.cls = .type "tuple" ∧ o.dict = none := tupNB_ok (He.ba (He.ba (He.ba (He.ba T.more).2).2).2).1
theorem t_SIGNS (T : Tx K mg) : ∀ H : Hp, SqT K H (He.ga K "SIGNS") (signsT.map V.int) := fun H => dvInts signsT ▸ He.tupB_ok (He.ba (He.ba (He.ba (He.ba T.more).2).2).2).2 H
end
end Flow
namespace Flow
open PySem PySem.Spec PyProof.Rows L2
abbrev R : PySem.W.OpenRow := PySem.W.OpenLaw.row PySem.Challenge.rw_flowstack_k03_read
abbrev hk : PySem.W.Hook := He.hookX 5 fa fn [] [] exB
def ob (s : PySem.W.SharedT) : He.AlX := He.obsX 5 fa fn [] [] exB (HandSHeadRun.getT s)
theorem ob_eq (s : PySem.W.SharedT) : ob s = hk.obs s.abs := He.obsX_eq (HandSHeadRun.getT_eq s)
def loose0 : List PySem.Str := ["FlowError", "BadLayer", "Wrong", "Cut", "ChunksReader", "checked", "check_bytes", "ChecksReader", "EscapeReader", "RunsReader", "SignsReader", "AddWriter", "AddReader", "FrontWriter", "FrontReader", "look_layer", "look_layers", "reader_of", "Reader", "read", "_law_cell", "_law_mix", "_law_whole", "_law_layer", "_law_layers", "_law_row", "_law_cuts", "_law_bits", "_law_groups", "_law_signs"]
def loose1 : List PySem.Str := ["_law_checks", "_law_write_runs", "_law_write_front", "_law_write_pieces", "_law_write", "_law_written", "_law_read_escape", "_law_read_runs", "_law_read_chunks", "_law_read_checks", "_law_read_signs", "_law_read", "_law_is_row", "_law_is_told", "_law_spoiled", "_law_all", "PRIME", "FACTOR", "LONGEST", "POWERS", "SIGNS", "MOST"]
def loose : List PySem.Str := loose0 ++ (loose1)
theorem run (w : World) : HandSHeadRun.RunEq R (PySem.W.view R.prog [59]) hk ob 20000 loose w := by
  intro os
  kernel_rfl
end Flow
local macro_rules | `(tactic| wtm_at "ne") => `(tactic| first
  | assumption
  | exact Ne.symm (by assumption)
  | exact L2.ne_of_none (by assumption) (by assumption)
  | exact Ne.symm (L2.ne_of_none (by assumption) (by assumption))
  | exact L2.ne_of (by assumption) (by assumption) (by with_unfolding_all (intro z; cases z)))
local macro_rules | `(tactic| wtm_at "pf") => `(tactic| first
  | (with_reducible exact Flow.pf_nil)
  | (with_reducible exact Flow.pf_hit)
  | (with_reducible exact Flow.pf_miss (by with_unfolding_all decide +kernel) (by wtm_at "pf")))
local macro_rules | `(tactic| wtm_at "h") => `(tactic| first
  | assumption
  | (with_reducible exact L2.upd_same)
  | (with_reducible refine Flow.upd_get ?_ ?_; (wtm_at "ne"); (wtm_at "h")))
local macro_rules | `(tactic| wtm_at "l") => `(tactic| first
  | exact L2.SqL.of (by wtm_at "h")
  | assumption)
local macro_rules | `(tactic| wtm_at "s") => `(tactic| first
  | exact Or.inl (by wtm_at "l")
  | exact Or.inr (by first | assumption | exact L2.SqT.of (by wtm_at "h")))
local macro_rules | `(tactic| wtm_at "sz") => `(tactic| first
  | (exact Flow.sz1 (by first | decide | (simp; omega) | simp))
  | omega)
local macro_rules | `(tactic| wtm_at "x1") => `(tactic| first
  | (with_reducible refine Flow.x_seq ?_; dsimp only)
  | (with_reducible refine Flow.x_asg ?_)
  | (with_reducible refine Flow.x_gName ?_; try dsimp only [List.set])
  | (with_reducible show L2.tVar _ _ _ _; with_reducible refine Flow.x_var (by with_unfolding_all rfl) ?_)
  | (with_reducible refine Flow.x_c ?_)
  | (with_reducible refine Flow.x_fld ?_)
  | (with_reducible show Flow.rFld _ _ _ _ _; with_reducible refine Flow.x_rFld (by wtm_at "h") (by wtm_at "cls") (by wtm_at "noat") (by with_unfolding_all rfl) ?_)
  | (with_reducible refine Flow.x_sFld ?_; try dsimp only)
  | (with_reducible show Flow.rSFld _ _ _ _ _ _; with_reducible refine Flow.x_rSFld (by wtm_at "h") (by wtm_at "cls") (by wtm_at "noat") (by first | decide | (simp; omega) | simp) (by wtm_at "pf") ?_)
  | (with_reducible refine Flow.x_op ?_)
  | (with_reducible refine Flow.x_un ?_)
  | (with_reducible refine Flow.x_rI0 ?_)
  | (with_reducible refine Flow.x_rU ?_)
  | (with_reducible show L2.rI _ _ _ _ _ _; with_reducible refine Flow.x_rI (by wtm_at "dv") ?_)
  | (with_reducible refine Flow.x_eqI ?_)
  | (with_reducible refine Flow.x_neI ?_)
  | (with_reducible refine Flow.x_eqS ?_)
  | (with_reducible refine Flow.x_neS ?_)
  | (with_reducible refine Flow.x_isN ?_)
  | (with_reducible refine Flow.x_notN ?_)
  | (with_reducible refine Flow.x_test ?_)
  | (with_reducible refine Flow.x_B ?_)
  | (with_reducible refine Flow.x_rBl ?_)
  | (with_reducible refine Flow.x_rBV ?_)
  | (with_reducible refine Flow.x_tru ?_)
  | (with_reducible refine Flow.x_not ?_)
  | (with_reducible refine Flow.x_andV ?_)
  | (with_reducible refine Flow.x_orV ?_)
  | (with_reducible refine Flow.x_notV ?_)
  | (with_reducible refine Flow.x_rAndV ?_)
  | (with_reducible refine Flow.x_rOrV ?_)
  | (with_reducible refine Flow.x_rNotV ?_)
  | (with_reducible refine Flow.x_if ?_)
  | (with_reducible refine Flow.x_chain ?_)
  | (with_reducible refine Flow.x_rChain ?_)
  | (with_reducible refine Flow.x_nil ?_)
  | (with_reducible refine Flow.x_cons ?_)
  | (with_reducible refine Flow.x_lst ?_)
  | (with_reducible refine Flow.x_tup ?_)
  | (with_reducible show Flow.rLst _ _ _; with_reducible refine Flow.x_rLst (by wtm_at "sz") ?_)
  | (with_reducible show Flow.rTup _ _ _; with_reducible refine Flow.x_rTup (by wtm_at "sz") ?_)
  | (with_reducible refine Flow.x_cb ?_)
  | (with_reducible show Flow.rLen _ _ _ _; with_reducible refine Flow.x_len (by wtm_at "s") ?_)
  | (with_reducible show Flow.rListOf _ _ _ _; with_reducible refine Flow.x_listOf (by wtm_at "s") ?_)
  | (with_reducible refine Flow.x_max2 ?_)
  | (with_reducible refine Flow.x_min2 ?_)
  | (with_reducible refine Flow.x_bm ?_)
  | (with_reducible refine Flow.x_bm0 ?_)
  | (with_reducible show Flow.rTy _ _ _ _ _ _ _ _; with_reducible refine Flow.x_tyL (by wtm_at "h") ?_)
  | (with_reducible show Flow.rTy0 _ _ _ _ _ _; with_reducible refine Flow.x_tyL0 (by wtm_at "h") ?_)
  | (with_reducible show L2.rAppend _ _ _ _; with_reducible refine Flow.x_append (by wtm_at "h") (by wtm_at "szl") ?_)
  | (with_reducible show L2.rExtend _ _ _ _; with_reducible refine Flow.x_extend (by wtm_at "h") (by wtm_at "h") (by wtm_at "szl") ?_)
  | (with_reducible show L2.rCat _ _ _ _; with_reducible refine Flow.x_cat (by wtm_at "h") (by wtm_at "h") (by wtm_at "szl") ?_)
  | (with_reducible refine Flow.x_sl ?_)
  | (with_reducible refine Flow.x_noPart ?_)
  | (with_reducible refine Flow.x_part ?_)
  | (with_reducible refine Flow.x_rPart ?_)
  | (with_reducible show L2.rSlL _ _ _ _ _ _; with_reducible refine Flow.x_slL (by wtm_at "l") ?_)
  | (with_reducible refine Flow.x_next ?_; try dsimp only)
  | (with_reducible refine Flow.x_drop ?_; try dsimp only)
  | (with_reducible refine Flow.x_ret ?_; try dsimp only)
  | (with_reducible refine Flow.x_retN ?_; try dsimp only)
  | (with_reducible refine Flow.x_ifS ?_)
  | (with_reducible refine Flow.x_fn ?_)
  | (with_reducible refine Flow.x_mm ?_)
  | (with_reducible refine Flow.x_mk ?_)
  | (with_reducible refine Flow.x_mu ?_)
  | (with_reducible refine L2.iteF ?_)
  | (with_reducible refine L2.iteT ?_)
  | (with_reducible refine Flow.x_forL ?_)
  | (with_reducible refine Flow.x_forR1 ?_)
  | (with_reducible refine Flow.x_forRev ?_)
  | (with_reducible refine Flow.x_lcL ?_)
  | (with_reducible refine Flow.x_lcR ?_)
  | (with_reducible refine Flow.x_lcT ?_)
  | (with_reducible refine Flow.x_lstRg1 ?_)
  | (with_reducible refine Flow.x_rRg ?_)
  | (with_reducible show Flow.rMm _ _ _ _ _ _ _ _ _; with_reducible refine Flow.x_rMm (by wtm_at "h") (by first | rfl | assumption) (by with_unfolding_all rfl) ?_))
local macro_rules | `(tactic| wtm_at "only") => `(tactic| repeat first
  | (with_reducible exact Flow.Only'.refl)
  | assumption
  | (with_reducible refine Flow.Only'.put0 ?_ (by assumption))
  | (with_reducible refine Flow.Only'.put ?_ (by simp)))
local macro_rules | `(tactic| wtm_at "nw") => `(tactic| repeat (first
  | (obtain ⟨_, hl⟩ := Flow.upd_none hl)))
local macro_rules | `(tactic| wtm_at "x") => `(tactic| repeat wtm_at "x1")
local macro_rules | `(tactic| wtm_at "if") => `(tactic| first
  | refine Flow.ite_d (fun hc => ?_) (fun hc => ?_)
  | refine Flow.ite_nd (fun hc => ?_) (fun hc => ?_)
  | refine Flow.ite_nb (fun hc => ?_) (fun hc => ?_)
  | refine Flow.ite_b (fun hc => ?_) (fun hc => ?_))
local macro_rules | `(tactic| wtm_at "dv") => `(tactic| with_unfolding_all (first
  | assumption
  | (show (0 : Int) < _; decide)
  | (show (0 : Int) < _; omega)
  | exact ⟨by decide, by decide⟩
  | (show _ ≠ (0 : Int); (try simp only [Flow.iV_length]); omega)
  | exact ⟨by omega, by omega⟩
  | (exact Or.inr ⟨by decide, by decide⟩)
  | (exact Or.inl ⟨by decide, by decide⟩)
  | (exact Or.inl ⟨by omega, by omega⟩)
  | (exact Or.inr ⟨by omega, by omega⟩)))
local macro_rules | `(tactic| wtm_at "szl") => `(tactic| first
  | assumption
  | (simp only [L2.sizeLine_eq] at *; omega)
  | (simp only [PySem.sizeLine_eq] at *; omega))
local macro_rules | `(tactic| wtm_at "cls") => `(tactic| first
  | (with_reducible exact Flow.cl_ChunksReader (by assumption))
  | (with_reducible exact Flow.cl_ChecksReader (by assumption))
  | (with_reducible exact Flow.cl_EscapeReader (by assumption))
  | (with_reducible exact Flow.cl_RunsReader (by assumption))
  | (with_reducible exact Flow.cl_SignsReader (by assumption))
  | (with_reducible exact Flow.cl_AddWriter (by assumption))
  | (with_reducible exact Flow.cl_AddReader (by assumption))
  | (with_reducible exact Flow.cl_FrontWriter (by assumption))
  | (with_reducible exact Flow.cl_FrontReader (by assumption))
  | (with_reducible exact Flow.cl_Reader (by assumption)))
local macro_rules | `(tactic| wtm_at "noat") => `(tactic| first
  | (with_reducible exact Flow.no_ChunksReader_size (by assumption))
  | (with_reducible exact Flow.no_ChunksReader_done (by assumption))
  | (with_reducible exact Flow.no_ChunksReader_left (by assumption))
  | (with_reducible exact Flow.no_ChunksReader_is_last (by assumption))
  | (with_reducible exact Flow.no_ChecksReader_size (by assumption))
  | (with_reducible exact Flow.no_ChecksReader_done (by assumption))
  | (with_reducible exact Flow.no_ChecksReader_check (by assumption))
  | (with_reducible exact Flow.no_ChecksReader_held (by assumption))
  | (with_reducible exact Flow.no_EscapeReader_marks (by assumption))
  | (with_reducible exact Flow.no_EscapeReader_done (by assumption))
  | (with_reducible exact Flow.no_EscapeReader_marked (by assumption))
  | (with_reducible exact Flow.no_RunsReader_done (by assumption))
  | (with_reducible exact Flow.no_RunsReader_many (by assumption))
  | (with_reducible exact Flow.no_RunsReader_last (by assumption))
  | (with_reducible exact Flow.no_SignsReader_done (by assumption))
  | (with_reducible exact Flow.no_SignsReader_many (by assumption))
  | (with_reducible exact Flow.no_SignsReader_value (by assumption))
  | (with_reducible exact Flow.no_AddWriter_key (by assumption))
  | (with_reducible exact Flow.no_AddWriter_at (by assumption))
  | (with_reducible exact Flow.no_AddReader_key (by assumption))
  | (with_reducible exact Flow.no_AddReader_at (by assumption))
  | (with_reducible exact Flow.no_FrontWriter_row (by assumption))
  | (with_reducible exact Flow.no_FrontReader_row (by assumption))
  | (with_reducible exact Flow.no_Reader_parts (by assumption))
  | (with_reducible exact Flow.no_Reader_fault (by assumption)))

namespace Flow
open PySem PySem.Spec PyProof.Rows L2
/-! ### writers as objects -/
/-- a writer's object at p, with what it owns at l -/
def WAt (K : PySem.W.Frag) (H : Hp) (p l : Addr) : WSt → Prop
  | .add key at_ => ∃ dx, H p = some (.ins (He.ga K "AddWriter") dx [("key", .ref l), ("at", .int at_)]) ∧ H l = some (.lst (iV key))
  | .front row => ∃ dx, H p = some (.ins (He.ga K "FrontWriter") dx [("row", .ref l)]) ∧ H l = some (.lst (iV row))
  | .esc e => ∃ dx, H p = some (.ins (He.ga K "EscapeWriter") dx [("marks", .ref l)]) ∧ H l = some (.lst (iV (marksOf e)))
  | .runs many byte => H p = some (.ins (He.ga K "RunsWriter") l [("many", .int many), ("byte", .int byte)]) ∧ H l = some (.own p)
  | .chunks size held => ∃ dx, H p = some (.ins (He.ga K "ChunksWriter") dx [("size", .int size), ("held", .ref l)]) ∧ H l = some (.lst (iV held))
  | .checks size many check => H p = some (.ins (He.ga K "ChecksWriter") l [("size", .int size), ("many", .int many), ("check", .int check)]) ∧ H l = some (.own p)
  | .signs many value => H p = some (.ins (He.ga K "SignsWriter") l [("many", .int many), ("value", .int value)]) ∧ H l = some (.own p)
def WName : WSt → Str
  | .add _ _ => "AddWriter"
  | .front _ => "FrontWriter"
  | .esc _ => "EscapeWriter"
  | .runs _ _ => "RunsWriter"
  | .chunks _ _ => "ChunksWriter"
  | .checks _ _ _ => "ChecksWriter"
  | .signs _ _ => "SignsWriter"
/-- the promise of a writer's take, of those whose state is of some kind -/
def spWTake (K : PySem.W.Frag) (is : WSt → Prop) : Sp := fun vs H Q _ => ∃ (p l : Addr) (st : WSt) (b : Int), vs = [.ref p, .int b] ∧ is st ∧ WAt K H p l st ∧ WOk st ∧ By b ∧
  ∀ (H' : Hp) (l' r : Addr), WAt K H' p l' (wtake st b).2 → (l' = l ∨ H l' = none) → H r = none → H' r = some (.lst (iV (wtake st b).1)) → Only' [p, l] H H' → Q (.ref r) H'
def spWEnd (K : PySem.W.Frag) (is : WSt → Prop) : Sp := fun vs H Q _ => ∃ (p l : Addr) (st : WSt), vs = [.ref p] ∧ is st ∧ WAt K H p l st ∧ WOk st ∧
  ∀ (H' : Hp) (l' r : Addr), WAt K H' p l' (wended st) → (l' = l ∨ H l' = none) → H r = none → H' r = some (.lst (iV (wend st))) → Only' [p, l] H H' → Q (.ref r) H'
/-- .. whatever the state -/
def spWEndG (K : PySem.W.Frag) (is : WSt → Prop) : Sp := fun vs H Q _ => ∃ (p l : Addr) (st : WSt), vs = [.ref p] ∧ is st ∧ WAt K H p l st ∧
  ∀ (H' : Hp) (l' r : Addr), WAt K H' p l' (wended st) → (l' = l ∨ H l' = none) → H r = none → H' r = some (.lst (iV (wend st))) → Only' [p, l] H H' → Q (.ref r) H'
theorem spWEndG.to {K : PySem.W.Frag} {is : WSt → Prop} (vs : List V) (H : Hp) (Q : VK) (E : XK) (h : spWEnd K is vs H Q E) : spWEndG K is vs H Q E := by
  obtain ⟨p, l, st, e, hs, hw, _, q⟩ := h
  exact ⟨p, l, st, e, hs, hw, q⟩
/-- C(a, ..) makes a writer -/
def spWInit (K : PySem.W.Frag) (C : Addr) (ok : List V → Hp → WSt → Prop) : Sp := fun vs H Q _ => ∃ (p dx : Addr) (a : List V) (st : WSt), vs = .ref p :: a ∧ H p = some (.ins C dx []) ∧ H dx = some (.own p) ∧ ok a H st ∧
  ∀ (H' : Hp) (l : Addr), WAt K H' p l st → (l = dx ∨ H l = none) → Only' [p] H H' → Q .non H'
def isAdd : WSt → Prop | .add _ _ => True | _ => False
def isFront : WSt → Prop | .front _ => True | _ => False
def isEsc : WSt → Prop | .esc _ => True | _ => False
def isRuns : WSt → Prop | .runs _ _ => True | _ => False
def isChunks : WSt → Prop | .chunks _ _ => True | _ => False
def isChecks : WSt → Prop | .checks _ _ _ => True | _ => False
def isSigns : WSt → Prop | .signs _ _ => True | _ => False
theorem rgV256 : rgV 0 256 = iV range256 := by
  unfold rgV iV range256
  rw [List.map_map]
  have e : (256 - 0 : Int).toNat = 256 := by decide
  rw [e]
  refine List.map_congr_left fun i _ => ?_
  show V.int (0 + (i : Int)) = V.int (Int.ofNat i)
  rw [Int.zero_add]
  rfl
theorem fmod_pos {a n : Int} (h : 0 ≤ n) : a.fmod n = a % n := Int.fmod_eq_emod_of_nonneg a h
theorem fdiv_pos {a n : Int} (h : 0 ≤ n) : a.fdiv n = a / n := Int.fdiv_eq_ediv_of_nonneg a h
section
variable {P : Program} {w : World} {K : PySem.W.Frag} {mg : Str → Option Value} {base : Heap}
/-! ### AddWriter -/
def spTurned (K : PySem.W.Frag) (C : Addr) (f : Int → Int → Int) : Sp := fun vs H Q _ => ∃ (p l dx : Addr) (key : Row) (at_ b : Int), vs = [.ref p, .int b] ∧ H p = some (.ins C dx [("key", .ref l), ("at", .int at_)]) ∧ H l = some (.lst (iV key)) ∧
  0 ≤ at_ ∧ at_ < (key.length : Int) ∧ Q (.int (f b (gI key at_))) H
theorem ok_AddWriter_turned (T : Tx K mg) : DefOk P w K mg base 1 (He.ma K (He.ga K "AddWriter") "turned") ["self", "byte"] (spTurned K (He.ga K "AddWriter") fun b k => (b + k) % 256) := by
  refine def_ok (N := n_AddWriter_turned) (fn_AddWriter_turned T) sc_AddWriter_turned (fun _ _ _ _ _ _ us hl => match us, hl with | [_, _], _ => rfl) (fun vs H Q E h => ?_) (fun cdv A outer s H vs Q E hr h => ?_)
  · obtain ⟨p, l, dx, key, at_, b, rfl, _⟩ := h
    rfl
  · obtain ⟨p, l, dx, key, at_, b, rfl, hp, hl, h0, h1, q⟩ := h
    refine ⟨_, [_, _], (pss_one (ps_ret (pe_op op_mod (pe_op op_add (pv 1) (pe_ix ix_list (pe_fld (pv 0) rfl) (pe_fld (pv 0) rfl) (fun _ _ => rfl))) pe_int))), rfl, ?_⟩
    try dsimp only [cxOf]
    wtm_at "x"
    refine x_ixL (SqL.of hl) (gI_at h0 h1) ?_
    wtm_at "x"
    exact q
theorem ok_AddWriter_init (T : Tx K mg) : DefOk P w K mg base 1 (He.ma K (He.ga K "AddWriter") "__init__") ["self", "key"] (spWInit K (He.ga K "AddWriter") fun a H st => ∃ t key, a = [.ref t] ∧ st = .add key 0 ∧ SqT K H t (iV key)) := by
  refine def_ok (N := n_AddWriter_init) (fn_AddWriter_init T) sc_AddWriter_init (fun _ _ _ _ _ _ us hl => match us, hl with | [_, _], _ => rfl) (fun vs H Q E h => ?_) (fun cdv A outer s H vs Q E hr h => ?_)
  · obtain ⟨p, dx, a, st, rfl, _, _, ⟨t, key, rfl, _⟩, _⟩ := h
    rfl
  · obtain ⟨p, dx, a, st, rfl, hp, hd, ⟨t, key, rfl, rfl, ht⟩, q⟩ := h
    refine ⟨_, [_, _], (pss_cons (ps_fld (pv 0) (pe_callTy call_listS rfl (f_list T) (by decide +kernel) (pa_cons (pv 1) pa_nil)) rfl)
      (pss_one (ps_fld (pv 0) pe_int rfl))), rfl, ?_⟩
    try dsimp only [cxOf]
    wtm_at "x"
    intro l hl
    wtm_at "x"
    exact q _ l ⟨dx, by wtm_at "h", by wtm_at "h"⟩ (Or.inr hl) (by wtm_at "only")
theorem ok_AddWriter_take (T : Tx K mg) : DefOk P w K mg base 2 (He.ma K (He.ga K "AddWriter") "take") ["self", "byte"] (spWTake K isAdd) := by
  have M_AddWriter_turned := meth1 (cl_AddWriter T) (me_AddWriter_turned T) (ok_AddWriter_turned (P := P) (w := w) (base := base) T)
  refine def_ok (N := n_AddWriter_take) (fn_AddWriter_take T) sc_AddWriter_take (fun _ _ _ _ _ _ us hl => match us, hl with | [_, _], _ => rfl) (fun vs H Q E h => ?_) (fun cdv A outer s H vs Q E hr h => ?_)
  · obtain ⟨p, l, st, b, rfl, _⟩ := h
    rfl
  · obtain ⟨p, l, st, b, rfl, hst, hw, hk, hb, q⟩ := h
    cases st <;> simp only [isAdd] at hst
    rename_i key at_
    obtain ⟨dx, hp, hl⟩ := hw
    obtain ⟨k1, k2, k3, k4, k5⟩ := hk
    refine ⟨_, [_, _, _], (pss_cons (ps_set (i := 2) sc_AddWriter_take.nd rfl (Or.inl rfl) (pe_mm M_AddWriter_turned (hr.mono (by first | decide | omega)) (fun _ => passE) (pv 0) (pa_cons (pv 1) pa_nil)))
      (pss_cons (ps_fld (pv 0) (pe_op op_modN (pe_op op_add (pe_fld (pv 0) rfl) pe_int) (pe_callB call_lenS rfl (f_len T) (by decide +kernel) (pa_cons (pe_fld (pv 0) rfl) pa_nil))) rfl)
      (pss_one (ps_ret (pe_lst (pa_cons (pv 2) pa_nil)))))), rfl, ?_⟩
    try dsimp only [cxOf]
    wtm_at "x"
    refine ⟨p, l, dx, key, at_, b, rfl, hp, hl, k4, k5, ?_⟩
    wtm_at "x"
    intro r hr
    obtain ⟨r1, hr⟩ := upd_none hr
    refine q _ l r ⟨dx, ?_, by wtm_at "h"⟩ (Or.inl rfl) hr upd_same (by wtm_at "only")
    have e : (at_ + 1).fmod ((iV key).length : Int) = (at_ + 1) % (key.length : Int) := by rw [iV_length, fmod_pos (by omega)]
    rw [← e]
    wtm_at "h"
theorem ok_AddWriter_end (T : Tx K mg) : DefOk P w K mg base 1 (He.ma K (He.ga K "AddWriter") "end") ["self"] (spWEnd K isAdd) := by
  refine def_ok (N := n_AddWriter_end) (fn_AddWriter_end T) sc_AddWriter_end (fun _ _ _ _ _ _ us hl => match us, hl with | [_], _ => rfl) (fun vs H Q E h => ?_) (fun cdv A outer s H vs Q E hr h => ?_)
  · obtain ⟨p, l, st, rfl, _⟩ := h
    rfl
  · obtain ⟨p, l, st, rfl, hst, hw, hk, q⟩ := h
    cases st <;> simp only [isAdd] at hst
    obtain ⟨dx, hp, hl⟩ := hw
    refine ⟨_, [_], (pss_one (ps_ret (pe_lst pa_nil))), rfl, ?_⟩
    try dsimp only [cxOf]
    wtm_at "x"
    intro r hr
    exact q _ l r ⟨dx, by wtm_at "h", by wtm_at "h"⟩ (Or.inl rfl) hr upd_same (by wtm_at "only")
/-! ### FrontWriter -/
theorem ok_FrontWriter_init (T : Tx K mg) : DefOk P w K mg base 1 (He.ma K (He.ga K "FrontWriter") "__init__") ["self"] (spWInit K (He.ga K "FrontWriter") fun a H st => a = [] ∧ st = .front range256) := by
  refine def_ok (N := n_FrontWriter_init) (fn_FrontWriter_init T) sc_FrontWriter_init (fun _ _ _ _ _ _ us hl => match us, hl with | [_], _ => rfl) (fun vs H Q E h => ?_) (fun cdv A outer s H vs Q E hr h => ?_)
  · obtain ⟨p, dx, a, st, rfl, _, _, ⟨rfl, _⟩, _⟩ := h
    rfl
  · obtain ⟨p, dx, a, st, rfl, hp, hd, ⟨rfl, rfl⟩, q⟩ := h
    refine ⟨_, [_], (pss_one (ps_fld (pv 0) (pe_listRg rfl rfl (f_list T) (prg_1 rfl (f_range T) pe_int)) rfl)), rfl, ?_⟩
    try dsimp only [cxOf]
    wtm_at "x"
    refine ⟨RgOk.of_le (by decide) (by decide) (by decide) (by decide), fun l hl => ?_⟩
    rw [rgV256]
    wtm_at "x"
    exact q _ l ⟨dx, by wtm_at "h", by wtm_at "h"⟩ (Or.inr hl) (by wtm_at "only")
def spToFront (K : PySem.W.Frag) (C : Addr) : Sp := fun vs H Q _ => ∃ (p l dx : Addr) (row : Row) (i : Int), vs = [.ref p, .int i] ∧ H p = some (.ins C dx [("row", .ref l)]) ∧ H l = some (.lst (iV row)) ∧
  0 ≤ i ∧ i < (row.length : Int) ∧ row.length = 256 ∧ ∀ H', H' l = some (.lst (iV (moveFront row i.toNat))) → Only' [l] H H' → Q (.int (gI row i)) H'
theorem ok_FrontWriter_to_front (T : Tx K mg) : DefOk P w K mg base 1 (He.ma K (He.ga K "FrontWriter") "to_front") ["self", "place"] (spToFront K (He.ga K "FrontWriter")) := by
  refine def_ok (N := n_FrontWriter_to_front) (fn_FrontWriter_to_front T) sc_FrontWriter_to_front (fun _ _ _ _ _ _ us hl => match us, hl with | [_, _], _ => rfl) (fun vs H Q E h => ?_) (fun cdv A outer s H vs Q E hr h => ?_)
  · obtain ⟨p, l, dx, row, i, rfl, _⟩ := h
    rfl
  · obtain ⟨p, l, dx, row, i, rfl, hp, hl, h0, h1, h2, q⟩ := h
    have hpl : p ≠ l := ne_of hp hl (by intro z; cases z)
    refine ⟨_, [_, _, _], (pss_cons (ps_set (i := 2) sc_FrontWriter_to_front.nd rfl (Or.inl rfl) (pe_bm PySem.F.plainAttrs_list PySem.F.slot_list_pop PySem.F.type_list_pop mt_popAt (pe_fld (pv 0) rfl) (pa_cons (pv 1) pa_nil)))
      (pss_cons (ps_expr (pe_bm PySem.F.plainAttrs_list PySem.F.slot_list_insert PySem.F.type_list_insert mt_insertS (pe_fld (pv 0) rfl) (pa_cons pe_int (pa_cons (pv 2) pa_nil))))
      (pss_one (ps_ret (pv 2))))), rfl, ?_⟩
    try dsimp only [cxOf]
    wtm_at "x"
    refine x_popAt hl h0 h1 (by omega) ?_
    wtm_at "x"
    refine x_insert0 upd_same (by rw [iV_length, List.length_eraseIdx, sizeLine_eq]; split <;> omega) ?_
    wtm_at "x"
    refine q _ ?_ (by wtm_at "only")
    rw [upd_same]
    rfl
theorem ok_FrontWriter_take (T : Tx K mg) : DefOk P w K mg base 2 (He.ma K (He.ga K "FrontWriter") "take") ["self", "byte"] (spWTake K isFront) := by
  have M_FrontWriter_to_front := meth1 (cl_FrontWriter T) (me_FrontWriter_to_front T) (ok_FrontWriter_to_front (P := P) (w := w) (base := base) T)
  refine def_ok (N := n_FrontWriter_take) (fn_FrontWriter_take T) sc_FrontWriter_take (fun _ _ _ _ _ _ us hl => match us, hl with | [_, _], _ => rfl) (fun vs H Q E h => ?_) (fun cdv A outer s H vs Q E hr h => ?_)
  · obtain ⟨p, l, st, b, rfl, _⟩ := h
    rfl
  · obtain ⟨p, l, st, b, rfl, hst, hw, hk, hb, q⟩ := h
    cases st <;> simp only [isFront] at hst
    rename_i row
    obtain ⟨dx, hp, hl⟩ := hw
    obtain ⟨k1, k2⟩ := hk
    have hm := k2 b hb
    have hlt : row.idxOf b < row.length := List.idxOf_lt_length_of_mem hm
    have hpl : p ≠ l := ne_of hp hl (by intro z; cases z)
    refine ⟨_, [_, _, _], (pss_cons (ps_set (i := 2) sc_FrontWriter_take.nd rfl (Or.inl rfl) (pe_bm PySem.F.plainAttrs_list PySem.F.slot_list_index PySem.F.type_list_index mt_index (pe_fld (pv 0) rfl) (pa_cons (pv 1) pa_nil)))
      (pss_cons (ps_expr (pe_mm M_FrontWriter_to_front (hr.mono (by first | decide | omega)) (fun _ => passE) (pv 0) (pa_cons (pv 2) pa_nil)))
      (pss_one (ps_ret (pe_lst (pa_cons (pv 2) pa_nil)))))), rfl, ?_⟩
    try dsimp only [cxOf]
    wtm_at "x"
    refine x_index (SqL.of hl) hm ?_
    wtm_at "x"
    refine ⟨p, l, dx, row, _, rfl, hp, hl, by omega, by omega, k1, fun H' h' o' => ?_⟩
    wtm_at "x"
    intro r hr
    have hp' := o' p _ hp (by simpa using hpl)
    have e : ((row.idxOf b : Int)).toNat = row.idxOf b := Int.toNat_natCast _
    rw [e] at h'
    have hr0 : H r = none := o'.free hr
    refine q _ l r ⟨dx, by wtm_at "h", by wtm_at "h"⟩ (Or.inl rfl) hr0 upd_same ?_
    exact Only'.put0 (o'.mono (by simp)) hr0
theorem ok_FrontWriter_end (T : Tx K mg) : DefOk P w K mg base 1 (He.ma K (He.ga K "FrontWriter") "end") ["self"] (spWEnd K isFront) := by
  refine def_ok (N := n_FrontWriter_end) (fn_FrontWriter_end T) sc_FrontWriter_end (fun _ _ _ _ _ _ us hl => match us, hl with | [_], _ => rfl) (fun vs H Q E h => ?_) (fun cdv A outer s H vs Q E hr h => ?_)
  · obtain ⟨p, l, st, rfl, _⟩ := h
    rfl
  · obtain ⟨p, l, st, rfl, hst, hw, hk, q⟩ := h
    cases st <;> simp only [isFront] at hst
    obtain ⟨dx, hp, hl⟩ := hw
    refine ⟨_, [_], (pss_one (ps_ret (pe_lst pa_nil))), rfl, ?_⟩
    try dsimp only [cxOf]
    wtm_at "x"
    intro r hr
    exact q _ l r ⟨dx, by wtm_at "h", by wtm_at "h"⟩ (Or.inl rfl) hr upd_same (by wtm_at "only")
end
end Flow

namespace Flow
open PySem PySem.Spec PyProof.Rows L2
theorem marks_eq (b : Int) : (List.range 4).map (fun (i : Nat) => V.int ((b + (i : Int)) % 256)) = iV (marksOf b) := by
  show [V.int ((b + ((0 : Nat) : Int)) % 256), V.int ((b + ((1 : Nat) : Int)) % 256), V.int ((b + ((2 : Nat) : Int)) % 256), V.int ((b + ((3 : Nat) : Int)) % 256)] = iV (marksOf b)
  have e : b + ((0 : Nat) : Int) = b := by omega
  rw [e]
  rfl
theorem marks_len (b : Int) : (marksOf b).length = 4 := rfl
section
variable {P : Program} {w : World} {K : PySem.W.Frag} {mg : Str → Option Value} {base : Heap}
/-! ### EscapeWriter -/
/-! ### RunsWriter -/
theorem runs_a {many byte b : Int} (h : many > 0 ∧ b ≠ byte) : takeRuns many byte b = ([many, byte], .runs 1 b) := if_pos h
theorem runs_b {many byte b : Int} (h : ¬ (many > 0 ∧ b ≠ byte)) (h2 : many + 1 = 255) : takeRuns many byte b = ([255, b], .runs 0 b) := by
  unfold takeRuns
  rw [if_neg h, if_pos h2]
theorem runs_c {many byte b : Int} (h : ¬ (many > 0 ∧ b ≠ byte)) (h2 : ¬ many + 1 = 255) : takeRuns many byte b = ([], .runs (many + 1) b) := by
  unfold takeRuns
  rw [if_neg h, if_neg h2]
end
end Flow

namespace Flow
open PySem PySem.Spec PyProof.Rows L2
/-- the end of chunks, be the held row full -/
def spWEndC (K : PySem.W.Frag) : Sp := fun vs H Q _ => ∃ (p l : Addr) (n : Int) (held : Row), vs = [.ref p] ∧ WAt K H p l (.chunks n held) ∧ held.length ≤ 255 ∧
  ∀ (H' : Hp) (l' r : Addr), WAt K H' p l' (.chunks n []) → (l' = l ∨ H l' = none) → H r = none → H' r = some (.lst (iV ((held.length : Int) :: held))) → Only' [p, l] H H' → Q (.ref r) H'
section
variable {P : Program} {w : World} {K : PySem.W.Frag} {mg : Str → Option Value} {base : Heap}
/-! ### ChunksWriter -/
/-! ### ChecksWriter -/
def spChecked (K : PySem.W.Frag) : Sp := fun vs H Q _ => ∃ (a : Addr) (c : Int) (r : Row), vs = [.int c, .ref a] ∧ SqL K H a (iV r) ∧ 0 ≤ c ∧ c < 65521 ∧ Q (.int (checkAll c r)) H
theorem checkAll_more : ∀ (c : Int) (r : Row) (b : Int), checkAll c (r ++ [b]) = nextCheck (checkAll c r) b
  | _, [], _ => rfl
  | c, x :: r, b => checkAll_more (nextCheck c x) r b
theorem checkAll_in : ∀ (c : Int) (r : Row), 0 ≤ c → c < 65521 → 0 ≤ checkAll c r ∧ checkAll c r < 65521
  | _, [], h0, h1 => ⟨h0, h1⟩
  | c, x :: r, _, _ => checkAll_in (nextCheck c x) r (Int.emod_nonneg _ (by decide)) (Int.emod_lt_of_pos _ (by decide))
theorem ok_checked (T : Tx K mg) : DefOk P w K mg base 1 (He.ga K "checked") ["check", "row"] (spChecked K) := by
  refine def_ok (N := n_checked) (fn_checked T) sc_checked (fun _ _ _ _ _ _ us hl => match us, hl with | [_, _], _ => rfl) (fun vs H Q E h => ?_) (fun cdv A outer s H vs Q E hr h => ?_)
  · obtain ⟨a, c, r, rfl, _⟩ := h
    rfl
  · obtain ⟨a, c, r, rfl, hr, c0, c1, q⟩ := h
    refine ⟨_, [_, _, _], (pss_cons (ps_for (passes_of rfl) rfl (pi_list (pv 1)) (pg_name (i := 2) sc_checked.nd rfl (Or.inl rfl)) (pss_one (ps_set (i := 0) sc_checked.nd rfl (Or.inl rfl) (pe_op op_mod (pe_op op_add (pe_op op_add (pe_op op_mul (pv 0) (pe_ci (c_FACTOR T))) (pv 2)) pe_int) (pe_ci (c_PRIME T))))))
      (pss_one (ps_ret (pv 0)))), rfl, ?_⟩
    try dsimp only [cxOf]
    wtm_at "x"
    refine x_rForL hr (fun i σ H' => ∃ v, σ = [some (.int (checkAll c (r.take i))), some (.ref a), v] ∧ H' = H) ⟨_, rfl, rfl⟩ (fun i σ H' _ ⟨_, _, e⟩ => e ▸ hr) ?_ ?_
    · rintro i x σ H' hi ⟨v, rfl, rfl⟩
      obtain ⟨z, hz, rfl⟩ := iV_get hi
      obtain ⟨hc0, hc1⟩ := checkAll_in c (r.take i) c0 c1
      wtm_at "x"
      refine ⟨some (.int z), ?_, rfl⟩
      rw [take_more hz, checkAll_more]
      rfl
    · rintro σ H' ⟨v, rfl, rfl⟩
      wtm_at "x"
      rw [iV_length, List.take_length]
      exact q
def spCheckBytes : Sp := fun vs H Q _ => ∃ c : Int, vs = [.int c] ∧ ∀ r, H r = none → Q (.ref r) (upd H r (.lst (iV (checkBytes c))))
theorem ok_check_bytes (T : Tx K mg) : DefOk P w K mg base 1 (He.ga K "check_bytes") ["check"] spCheckBytes := by
  refine def_ok (N := n_check_bytes) (fn_check_bytes T) sc_check_bytes (fun _ _ _ _ _ _ us hl => match us, hl with | [_], _ => rfl) (fun vs H Q E h => ?_) (fun cdv A outer s H vs Q E hr h => ?_)
  · obtain ⟨c, rfl, _⟩ := h
    rfl
  · obtain ⟨c, rfl, q⟩ := h
    refine ⟨_, [_], (pss_one (ps_ret (pe_lst (pa_cons (pe_op op_fdiv (pv 0) pe_int) (pa_cons (pe_op op_mod (pv 0) pe_int) pa_nil))))), rfl, ?_⟩
    try dsimp only [cxOf]
    wtm_at "x"
    intro r hr
    exact q r hr
end
end Flow

namespace Flow
open PySem PySem.Spec PyProof.Rows L2
section
variable {P : Program} {w : World} {K : PySem.W.Frag} {mg : Str → Option Value} {base : Heap}
/-! ### SignsWriter -/
theorem pow2_0 : pow2 0 = 1 := rfl
theorem pow2_2 : pow2 2 = 4 := rfl
theorem pow2_4 : pow2 4 = 16 := rfl
theorem pow2_6 : pow2 6 = 64 := rfl
theorem sg_a {many value b : Int} (hm : many = 0 ∨ many = 2 ∨ many = 4) (h0 : 0 ≤ value) (h1 : value < pow2 many) (hb : By b) :
    0 ≤ (value * 256 + b) / pow2 (many + 2) ∧ (value * 256 + b) / pow2 (many + 2) < 64 ∧ 0 ≤ (value * 256 + b) % pow2 (many + 2) ∧ (value * 256 + b) % pow2 (many + 2) < pow2 (many + 2) ∧ 0 < pow2 (many + 2) ∧ pow2 (many + 2) ≤ 64 := by
  obtain ⟨b0, b1⟩ := hb
  rcases hm with rfl | rfl | rfl
  · rw [pow2_0] at h1
    rw [show pow2 (0 + 2) = 4 from rfl]
    omega
  · rw [pow2_2] at h1
    rw [show pow2 (2 + 2) = 16 from rfl]
    omega
  · rw [pow2_4] at h1
    rw [show pow2 (4 + 2) = 64 from rfl]
    omega
end
end Flow

namespace Flow
open PySem PySem.Spec PyProof.Rows L2
/-! ### layers as tuples -/
def goodRaw (k : Str) (xs : Row) : Bool :=
  if k ∈ (["runs", "front", "signs"] : List Str) then decide (((rawLen xs : Nat) : Int) = 1)
  else if k = "add" then (decide ((1 : Int) ≤ (rawLen xs : Int) - 1) && decide ((rawLen xs : Int) - 1 ≤ 8)) && xs.all fun b => decide (0 ≤ b) && decide (b ≤ 255)
  else if k ∈ (["chunks", "checks"] : List Str) then decide (((rawLen xs : Nat) : Int) = 2) && (decide (1 ≤ gI xs 0) && decide (gI xs 0 ≤ 255))
  else decide (k = "escape") && (decide (((rawLen xs : Nat) : Int) = 2) && (decide (0 ≤ gI xs 0) && decide (gI xs 0 ≤ 255)))
where rawLen (xs : Row) : Nat := xs.length + 1
def rawV (k : Str) (xs : Row) : List V := .str k :: iV xs
def lkind : Lay → Str
  | .add _ => "add"
  | .front => "front"
  | .esc _ => "escape"
  | .runs => "runs"
  | .chunks _ => "chunks"
  | .checks _ => "checks"
  | .signs => "signs"
def largs : Lay → Row
  | .add key => key
  | .front => []
  | .esc b => [b]
  | .runs => []
  | .chunks n => [n]
  | .checks n => [n]
  | .signs => []
def layV (l : Lay) : List V := rawV (lkind l) (largs l)
theorem good_lay {l : Lay} (h : l.Ok) : goodRaw (lkind l) (largs l) = true := by
  cases l with
  | add key =>
    obtain ⟨h1, h2, h3⟩ := h
    unfold goodRaw
    rw [if_neg (by show ¬ ("add" : Str) ∈ _; decide +kernel), if_pos (show lkind (Lay.add key) = "add" from rfl)]
    have e : largs (.add key) = key := rfl
    rw [e]
    simp only [goodRaw.rawLen, Bool.and_eq_true, decide_eq_true_eq, List.all_eq_true]
    refine ⟨⟨decide_eq_true (show (1 : Int) ≤ ((key.length + 1 : Nat) : Int) - 1 by omega), decide_eq_true (show ((key.length + 1 : Nat) : Int) - 1 ≤ 8 by omega)⟩, fun x hx => ?_⟩
    have := h3 x hx
    unfold By at this
    omega
  | front => decide +kernel
  | esc b =>
    obtain ⟨h1, h2⟩ := h
    unfold goodRaw
    rw [if_neg (by show ¬ ("escape" : Str) ∈ _; decide +kernel), if_neg (by show ¬ ("escape" : Str) = "add"; decide +kernel), if_neg (by show ¬ ("escape" : Str) ∈ _; decide +kernel)]
    have e : gI (largs (.esc b)) 0 = b := rfl
    rw [e]
    simp only [lkind, goodRaw.rawLen, Bool.and_eq_true, decide_eq_true_eq]
    refine ⟨trivial, rfl, by omega, by omega⟩
  | runs => decide +kernel
  | chunks n =>
    obtain ⟨h1, h2⟩ := h
    unfold goodRaw
    rw [if_neg (by show ¬ ("chunks" : Str) ∈ _; decide +kernel), if_neg (by show ¬ ("chunks" : Str) = "add"; decide +kernel), if_pos (by show ("chunks" : Str) ∈ _; decide +kernel)]
    have e : gI (largs (.chunks n)) 0 = n := rfl
    rw [e]
    simp only [lkind, goodRaw.rawLen, Bool.and_eq_true, decide_eq_true_eq]
    refine ⟨rfl, by omega, by omega⟩
  | checks n =>
    obtain ⟨h1, h2⟩ := h
    unfold goodRaw
    rw [if_neg (by show ¬ ("checks" : Str) ∈ _; decide +kernel), if_neg (by show ¬ ("checks" : Str) = "add"; decide +kernel), if_pos (by show ("checks" : Str) ∈ _; decide +kernel)]
    have e : gI (largs (.checks n)) 0 = n := rfl
    rw [e]
    simp only [lkind, goodRaw.rawLen, Bool.and_eq_true, decide_eq_true_eq]
    refine ⟨rfl, by omega, by omega⟩
  | signs => decide +kernel
/-- raw layers at the addresses ts -/
structure RawAll (K : PySem.W.Frag) (H : Hp) (ts : List Addr) (ls : List (Str × Row)) : Prop where
  len : ts.length = ls.length
  at_ : ∀ (i : Nat) (t : Addr) (k : Str) (xs : Row), ts[i]? = some t → ls[i]? = some (k, xs) → SqT K H t (rawV k xs)
  few : ∀ (i : Nat) (k : Str) (xs : Row), ls[i]? = some (k, xs) → xs.length ≤ 100
theorem RawAll.ext {K : PySem.W.Frag} {H H' : Hp} {ts : List Addr} {ls : List (Str × Row)} (a : RawAll K H ts ls) (e : Ext H H') : RawAll K H' ts ls := ⟨a.len, fun i t k xs h1 h2 => SqT.ext e (a.at_ i t k xs h1 h2), a.few⟩
def goodAll (ls : List (Str × Row)) : Bool := decide (ls.length ≤ 8) && ls.all fun q => goodRaw q.1 q.2
def rawOf (l : Lay) : Str × Row := (lkind l, largs l)
/-- layers at the list a -/
def LaysAt (K : PySem.W.Frag) (H : Hp) (a : Addr) (ls : List Lay) : Prop := ∃ ts, SqL K H a (ts.map V.ref) ∧ RawAll K H ts (ls.map rawOf)
def spLook (K : PySem.W.Frag) : Sp := fun vs H Q E => ∃ (t : Addr) (k : Str) (xs : Row), vs = [.ref t] ∧ SqT K H t (rawV k xs) ∧ xs.length ≤ 100 ∧
  (goodRaw k xs = true → ∀ H', Ext H H' → Q .non H') ∧ (goodRaw k xs = false → ∀ H', Ext H H' → E (.ref (He.ga K "BadLayer")) none H')
def spLooks (K : PySem.W.Frag) : Sp := fun vs H Q E => ∃ (a : Addr) (ts : List Addr) (ls : List (Str × Row)), vs = [.ref a] ∧ SqL K H a (ts.map V.ref) ∧ RawAll K H ts ls ∧
  (goodAll ls = true → ∀ H', Ext H H' → Q .non H') ∧ (goodAll ls = false → ∀ H', Ext H H' → E (.ref (He.ga K "BadLayer")) none H')
theorem rawV_len (k : Str) (xs : Row) : (rawV k xs).length = xs.length + 1 := by
  unfold rawV
  rw [List.length_cons, iV_length]
theorem ix_kind (k : Str) (xs : Row) : atI (rawV k xs) 0 = some (.str k) := at_of (j := 0) rfl rfl
theorem ix_arg {k : Str} {xs : Row} (h : (((xs.length + 1 : Nat) : Int) = 2)) : atI (rawV k xs) 1 = some (.int (gI xs 0)) := by
  have hl : xs.length = 1 := by omega
  obtain ⟨x, rfl⟩ : ∃ x, xs = [x] := List.length_eq_one_iff.mp hl
  exact at_of (j := 1) rfl rfl
section
variable {P : Program} {w : World} {K : PySem.W.Frag} {mg : Str → Option Value} {base : Heap}
theorem all_map (xs : Row) (f : Int → Bool) : ((List.range xs.length).map fun (i : Nat) => V.bl (f (gI xs (i : Int)))) = (xs.map f).map V.bl := by
  refine List.ext_getElem? fun i => ?_
  rw [List.getElem?_map, List.getElem?_map, List.getElem?_map]
  by_cases h : i < xs.length
  · rw [List.getElem?_range h, List.getElem?_eq_getElem h]
    show some (V.bl (f (gI xs (i : Int)))) = some (V.bl (f xs[i]))
    rw [gI_nat (List.getElem?_eq_getElem h)]
  · rw [List.getElem?_eq_none (by rw [List.length_range]; omega), List.getElem?_eq_none (by omega)]
    rfl
theorem ok_look_layer (T : Tx K mg) : DefOk P w K mg base 1 (He.ga K "look_layer") ["layer"] (spLook K) := by
  refine def_ok (N := n_look_layer) (fn_look_layer T) sc_look_layer (fun _ _ _ _ _ _ us hl => match us, hl with | [_], _ => rfl) (fun vs H Q E h => ?_) (fun cdv A outer s H vs Q E hr h => ?_)
  · obtain ⟨t, k, xs, rfl, _⟩ := h
    rfl
  · obtain ⟨t, k, xs, rfl, ht, hfew, qg, qb⟩ := h
    have fin : ∀ (b : Bool) (H' : Hp), Ext H H' → goodRaw k xs = b → (if (!b) = true then E (.ref (He.ga K "BadLayer")) none H' else Q .non H') := fun b H' e hb => by
      cases b with
      | true => exact iteF (qg hb _ e)
      | false => exact iteT (qb hb _ e)
    refine ⟨_, [_, _, _, _], (pss_cons (ps_set (i := 1) sc_look_layer.nd rfl (Or.inl rfl) (pe_ix ix_tup (pv 0) pe_int (fun _ _ => rfl)))
      (pss_cons (ps_if (pt_cmpR op_in_seq (pv 1) (pe_tup (pa_cons pe_str (pa_cons pe_str (pa_cons pe_str pa_nil)))) (by rfl)) (pss_one (ps_set (i := 2) sc_look_layer.nd rfl (Or.inl rfl) (pe_cmpR op_eq (pe_callB call_lenS rfl (f_len T) (by decide +kernel) (pa_cons (pv 0) pa_nil)) pe_int (nomark _)))) (pss_one (ps_if (pt_cmpR op_eq (pv 1) pe_str (nomark _)) (pss_one (ps_set (i := 2) sc_look_layer.nd rfl (Or.inl rfl) (pe_and (pe_chain op_le op_le pe_int (pe_op op_sub (pe_callB call_lenS rfl (f_len T) (by decide +kernel) (pa_cons (pv 0) pa_nil)) pe_int) pe_int) (pe_one (pe_callB (cr_all rfl) rfl (f_all T) (by decide +kernel) (pa_cons (pe_lc (own := [("byte", 3)]) (g := gName 3) (tt := tYes) rfl sc_look_layer.nd (pi_tup (pe_slice sl_tup (pv 0) (po_some pe_int) po_none)) (blkOk_by (own := [("byte", 3)]) (N := n_look_layer) (sc := defScope s_look_layer) (by decide +kernel)) (fun _ _ _ _ _ => pg_name (i := 3) sc_look_layer.nd rfl (Or.inl rfl)) (fun _ _ _ _ _ => pts_nil) (fun _ _ _ _ _ => (pe_chain op_le op_le pe_int (pv 3) pe_int))) pa_nil)))))) (pss_one (ps_if (pt_cmpR op_in_seq (pv 1) (pe_tup (pa_cons pe_str (pa_cons pe_str pa_nil))) (by rfl)) (pss_one (ps_set (i := 2) sc_look_layer.nd rfl (Or.inl rfl) (pe_and (pe_cmpR op_eq (pe_callB call_lenS rfl (f_len T) (by decide +kernel) (pa_cons (pv 0) pa_nil)) pe_int (nomark _)) (pe_one (pe_chain op_le op_le pe_int (pe_ix ix_tup (pv 0) pe_int (fun _ _ => rfl)) pe_int))))) (pss_one (ps_set (i := 2) sc_look_layer.nd rfl (Or.inl rfl) (pe_and (pe_cmpR op_eq (pv 1) pe_str (nomark _)) (pe_and (pe_cmpR op_eq (pe_callB call_lenS rfl (f_len T) (by decide +kernel) (pa_cons (pv 0) pa_nil)) pe_int (nomark _)) (pe_one (pe_chain op_le op_le pe_int (pe_ix ix_tup (pv 0) pe_int (fun _ _ => rfl)) pe_int)))))))))))
      (pss_one (ps_if (pt_not (pt_val (pv 2))) (pss_one (ps_raise rfl (takes_of rfl rfl rfl rfl) (pmk_own PySem.F.excBase_ValueError (xc_BadLayer T).1 (g_BadLayer T) (xc_BadLayer T).2.1 (raises_own (xc_BadLayer T).2.2.1 (xc_BadLayer T).2.2.2) rfl))) pss_nil)))), rfl, ?_⟩
    try dsimp only [cxOf]
    wtm_at "x"
    refine x_ixT ht (ix_kind k xs) ?_
    wtm_at "x"
    intro p1 hp1
    refine x_inS (["runs", "front", "signs"] : List Str) (Or.inr (SqT.of upd_same)) ?_
    wtm_at "x"
    have e1 : Ext H (upd H p1 (.tup [V.str "runs", V.str "front", V.str "signs"])) := Only'.put0 Only'.refl hp1
    have ht1 := SqT.ext e1 ht
    refine ite_d (fun hc => ?_) fun hc => ?_
    · wtm_at "x"
      rw [rawV_len]
      refine fin _ _ e1 ?_
      unfold goodRaw
      rw [if_pos hc]
      rfl
    · wtm_at "x"
      refine ite_d (fun hk => ?_) fun hk => ?_
      · wtm_at "x"
        rw [rawV_len]
        have hg : goodRaw k xs = ((decide ((1 : Int) ≤ ((xs.length + 1 : Nat) : Int) - 1) && decide (((xs.length + 1 : Nat) : Int) - 1 ≤ 8)) && xs.all fun b => decide (0 ≤ b) && decide (b ≤ 255)) := by
          unfold goodRaw
          rw [if_neg hc, if_pos hk]
          rfl
        refine ite_d (fun h1 => ?_) fun h1 => ?_
        · wtm_at "x"
          refine ite_d (fun h2 => ?_) fun h2 => ?_
          · wtm_at "x"
            refine x_slT ht1 (by rw [rawV_len]; intro z; have := z.1; unfold HT.sIx at this; simp at this) fun t2 ht2 => ?_
            obtain ⟨_, ht20⟩ := upd_none ht2
            rw [show cutV (rawV k xs) (some 1) none = iV xs from cut_from (k := 1) rfl]
            have e2 : Ext H (upd (upd H p1 (.tup [V.str "runs", V.str "front", V.str "signs"])) t2 (.tup (iV xs))) := e1.put0 ht20
            refine x_rLcT (fun (i : Nat) => V.bl ((fun b => decide (0 ≤ b) && decide (b ≤ 255)) (gI xs (i : Int)))) (SqT.of upd_same) (by rw [iV_length, sizeLine_eq]; omega) (fun _ => rfl) (fun i x H1 hi e3 Q' kq => ?_) fun l H1 hl e3 hl1 => ?_
            · obtain ⟨z, hz, rfl⟩ := iV_get hi
              rw [gI_nat hz] at kq
              wtm_at "x"
              refine ite_d (fun hz1 => ?_) fun hz1 => ?_
              · wtm_at "x"
                have := kq H1 Only'.refl
                dsimp only at this
                rw [decide_eq_true hz1, Bool.true_and] at this
                exact this
              · have := kq H1 Only'.refl
                dsimp only at this
                rw [decide_eq_false hz1, Bool.false_and] at this
                exact this
            · rw [iV_length, all_map xs fun b => decide (0 ≤ b) && decide (b ≤ 255)] at hl1
              wtm_at "x"
              refine x_all _ (SqL.of hl1) ?_
              wtm_at "x"
              refine fin _ _ (e2.trans e3) ?_
              rw [hg, decide_eq_true h1, decide_eq_true h2, List.all_map]
              rfl
          · wtm_at "x"
            exact fin false _ e1 (by rw [hg, decide_eq_false h2, Bool.and_false, Bool.false_and])
        · wtm_at "x"
          exact fin false _ e1 (by rw [hg, decide_eq_false h1, Bool.false_and, Bool.false_and])
      · wtm_at "x"
        intro p2 hp2
        obtain ⟨_, hp20⟩ := upd_none hp2
        refine x_inS (["chunks", "checks"] : List Str) (Or.inr (SqT.of upd_same)) ?_
        wtm_at "x"
        have e2 : Ext H (upd (upd H p1 (.tup [V.str "runs", V.str "front", V.str "signs"])) p2 (.tup [V.str "chunks", V.str "checks"])) := e1.put0 hp20
        have ht2 := SqT.ext e2 ht
        refine ite_d (fun hk2 => ?_) fun hk2 => ?_
        · wtm_at "x"
          rw [rawV_len]
          have hg : goodRaw k xs = (decide ((((xs.length + 1 : Nat)) : Int) = 2) && (decide (1 ≤ gI xs 0) && decide (gI xs 0 ≤ 255))) := by
            unfold goodRaw
            rw [if_neg hc, if_neg hk, if_pos hk2]
            rfl
          refine ite_d (fun h1 => ?_) fun h1 => ?_
          · wtm_at "x"
            refine x_ixT ht2 (ix_arg h1) ?_
            wtm_at "x"
            refine ite_d (fun h2 => ?_) fun h2 => ?_
            · wtm_at "x"
              exact fin _ _ e2 (by rw [hg, decide_eq_true h1, decide_eq_true h2, Bool.true_and, Bool.true_and])
            · wtm_at "x"
              exact fin false _ e2 (by rw [hg, decide_eq_false h2, Bool.false_and, Bool.and_false])
          · wtm_at "x"
            exact fin false _ e2 (by rw [hg, decide_eq_false h1, Bool.false_and])
        · wtm_at "x"
          have hg : goodRaw k xs = (decide (k = "escape") && (decide ((((xs.length + 1 : Nat)) : Int) = 2) && (decide (0 ≤ gI xs 0) && decide (gI xs 0 ≤ 255)))) := by
            unfold goodRaw
            rw [if_neg hc, if_neg hk, if_neg hk2]
            rfl
          refine ite_d (fun h0 => ?_) fun h0 => ?_
          · wtm_at "x"
            rw [rawV_len]
            refine ite_d (fun h1 => ?_) fun h1 => ?_
            · wtm_at "x"
              refine x_ixT ht2 (ix_arg h1) ?_
              wtm_at "x"
              refine ite_d (fun h2 => ?_) fun h2 => ?_
              · wtm_at "x"
                exact fin _ _ e2 (by rw [hg, decide_eq_true h0, decide_eq_true h1, decide_eq_true h2, Bool.true_and, Bool.true_and, Bool.true_and])
              · wtm_at "x"
                exact fin false _ e2 (by rw [hg, decide_eq_false h2, Bool.false_and, Bool.and_false, Bool.and_false])
            · wtm_at "x"
              exact fin false _ e2 (by rw [hg, decide_eq_false h1, Bool.false_and, Bool.and_false])
          · wtm_at "x"
            exact fin false _ e2 (by rw [hg, decide_eq_false h0, Bool.false_and])
theorem ok_look_layers (T : Tx K mg) : DefOk P w K mg base 2 (He.ga K "look_layers") ["layers"] (spLooks K) := by
  have D_look_layer := ok_look_layer (P := P) (w := w) (base := base) T
  refine def_ok (N := n_look_layers) (fn_look_layers T) sc_look_layers (fun _ _ _ _ _ _ us hl => match us, hl with | [_], _ => rfl) (fun vs H Q E h => ?_) (fun cdv A outer s H vs Q E hr h => ?_)
  · obtain ⟨a, ts, ls, rfl, _⟩ := h
    rfl
  · obtain ⟨a, ts, ls, rfl, ha, hra, qg, qb⟩ := h
    refine ⟨_, [_, _], (pss_cons (ps_if (pt_cmpR op_gt (pe_callB call_lenS rfl (f_len T) (by decide +kernel) (pa_cons (pv 0) pa_nil)) (pe_ci (c_MOST T)) (nomark _)) (pss_one (ps_raise rfl (takes_of rfl rfl rfl rfl) (pmk_own PySem.F.excBase_ValueError (xc_BadLayer T).1 (g_BadLayer T) (xc_BadLayer T).2.1 (raises_own (xc_BadLayer T).2.2.1 (xc_BadLayer T).2.2.2) rfl))) pss_nil)
      (pss_one (ps_for (passes_of rfl) rfl (pi_list (pv 0)) (pg_name (i := 1) sc_look_layers.nd rfl (Or.inl rfl)) (pss_one (ps_expr (pe_fn D_look_layer (g_look_layer T) (hr.mono (by first | decide | omega)) (fun σ => passAt (takes_of rfl rfl rfl rfl) σ) (pa_cons (pv 1) pa_nil))))))), rfl, ?_⟩
    try dsimp only [cxOf]
    wtm_at "x"
    rw [List.length_map, hra.len]
    refine ite_d (fun hc => ?_) fun hc => ?_
    · refine qb ?_ _ Only'.refl
      unfold goodAll
      rw [decide_eq_false (by omega), Bool.false_and]
    · wtm_at "x"
      refine x_rForL ha (fun i σ H' => (∃ v, σ = [some (.ref a), v]) ∧ Ext H H' ∧ ∀ (j : Nat) (k : Str) (xs : Row), j < i → ls[j]? = some (k, xs) → goodRaw k xs = true) ⟨⟨_, rfl⟩, Only'.refl, fun j k xs hj => absurd hj (by omega)⟩
        (fun i σ H' _ p => SqL.ext p.2.1 ha) ?_ ?_
      · rintro i x σ H' hi ⟨⟨v, rfl⟩, e, hgood⟩
        obtain ⟨t, ht, rfl⟩ : ∃ t, ts[i]? = some t ∧ x = V.ref t := by
          rw [List.getElem?_map] at hi
          cases z : ts[i]? with
          | none => rw [z] at hi; cases hi
          | some t => rw [z] at hi; exact ⟨t, rfl, (Option.some.inj hi).symm⟩
        have hlt : i < ls.length := by rw [← hra.len]; exact (List.getElem?_eq_some_iff.mp ht).1
        have hl := List.getElem?_eq_getElem hlt
        wtm_at "x"
        refine ⟨t, (ls[i]).1, (ls[i]).2, rfl, SqT.ext e (hra.at_ i t _ _ ht hl), hra.few i _ _ hl, fun hg H2 e2 => ?_, fun hg H2 e2 => ?_⟩
        · refine ⟨⟨_, rfl⟩, e.trans e2, fun j k xs hj hjl => ?_⟩
          by_cases hji : j = i
          · subst hji
            rw [hl] at hjl
            have ej : ls[j] = (k, xs) := Option.some.inj hjl
            rw [ej] at hg
            exact hg
          · exact hgood j k xs (by omega) hjl
        · refine qb ?_ _ (e.trans e2)
          unfold goodAll
          have : (ls.all fun q => goodRaw q.1 q.2) = false := by
            rw [List.all_eq_false]
            exact ⟨ls[i], List.getElem_mem hlt, by rw [hg]; decide⟩
          rw [this, Bool.and_false]
      · rintro σ H' ⟨⟨v, rfl⟩, e, hgood⟩
        refine qg ?_ _ e
        unfold goodAll
        rw [List.length_map, hra.len] at hgood
        rw [decide_eq_true (by omega), Bool.true_and, List.all_eq_true]
        intro q hq
        obtain ⟨j, hj, ej⟩ := List.mem_iff_getElem.mp hq
        exact hgood j q.1 q.2 hj (by rw [List.getElem?_eq_getElem hj, ej])
end
end Flow

namespace Flow
open PySem PySem.Spec PyProof.Rows L2
theorem WAt_parts (K : PySem.W.Frag) : PartsP (WAt K) := by
  constructor
  · intro H H' p l s h hp hl
    cases s <;> simp only [WAt] at h ⊢
    · obtain ⟨dx, h1, h2⟩ := h
      exact ⟨dx, hp _ h1, hl _ h2⟩
    · obtain ⟨dx, h1, h2⟩ := h
      exact ⟨dx, hp _ h1, hl _ h2⟩
    · obtain ⟨dx, h1, h2⟩ := h
      exact ⟨dx, hp _ h1, hl _ h2⟩
    · exact ⟨hp _ h.1, hl _ h.2⟩
    · obtain ⟨dx, h1, h2⟩ := h
      exact ⟨dx, hp _ h1, hl _ h2⟩
    · exact ⟨hp _ h.1, hl _ h.2⟩
    · exact ⟨hp _ h.1, hl _ h.2⟩
  · intro H p l s h
    cases s <;> simp only [WAt] at h
    · obtain ⟨dx, h1, h2⟩ := h
      exact ⟨⟨_, h1⟩, ⟨_, h2⟩⟩
    · obtain ⟨dx, h1, h2⟩ := h
      exact ⟨⟨_, h1⟩, ⟨_, h2⟩⟩
    · obtain ⟨dx, h1, h2⟩ := h
      exact ⟨⟨_, h1⟩, ⟨_, h2⟩⟩
    · exact ⟨⟨_, h.1⟩, ⟨_, h.2⟩⟩
    · obtain ⟨dx, h1, h2⟩ := h
      exact ⟨⟨_, h1⟩, ⟨_, h2⟩⟩
    · exact ⟨⟨_, h.1⟩, ⟨_, h.2⟩⟩
    · exact ⟨⟨_, h.1⟩, ⟨_, h.2⟩⟩
theorem WAt_ins {K : PySem.W.Frag} {H : Hp} {p l : Addr} {s : WSt} (h : WAt K H p l s) : ∃ dx fs, H p = some (.ins (He.ga K (WName s)) dx fs) ∧ fs.lookup ("take" : Str) = none ∧ fs.lookup ("end" : Str) = none := by
  cases s <;> simp only [WAt] at h
  · obtain ⟨dx, h1, h2⟩ := h
    exact ⟨_, _, h1, by kernel_rfl, by kernel_rfl⟩
  · obtain ⟨dx, h1, h2⟩ := h
    exact ⟨_, _, h1, by kernel_rfl, by kernel_rfl⟩
  · obtain ⟨dx, h1, h2⟩ := h
    exact ⟨_, _, h1, by kernel_rfl, by kernel_rfl⟩
  · exact ⟨_, _, h.1, by kernel_rfl, by kernel_rfl⟩
  · obtain ⟨dx, h1, h2⟩ := h
    exact ⟨_, _, h1, by kernel_rfl, by kernel_rfl⟩
  · exact ⟨_, _, h.1, by kernel_rfl, by kernel_rfl⟩
  · exact ⟨_, _, h.1, by kernel_rfl, by kernel_rfl⟩
def isLike : WSt → WSt → Prop
  | .add _ _ => isAdd
  | .front _ => isFront
  | .esc _ => isEsc
  | .runs _ _ => isRuns
  | .chunks _ _ => isChunks
  | .checks _ _ _ => isChecks
  | .signs _ _ => isSigns
theorem isLike_self (s : WSt) : isLike s s := by cases s <;> trivial
section
variable {P : Program} {w : World} {K : PySem.W.Frag} {mg : Str → Option Value} {base : Heap}
theorem endC_to (vs : List V) (H : Hp) (Q : VK) (E : XK) (h : spWEnd K isChunks vs H Q E) : spWEndC K vs H Q E := by
  obtain ⟨p, l, st, e, hs, hw, hk, q⟩ := h
  cases st <;> simp only [isChunks] at hs
  obtain ⟨k1, k2, k3, k4⟩ := hk
  exact ⟨p, l, _, _, e, hw, by omega, q⟩
def spWriterOf (K : PySem.W.Frag) : Sp := fun vs H Q _ => ∃ (t : Addr) (ly : Lay), vs = [.ref t] ∧ SqT K H t (layV ly) ∧ ly.Ok ∧
  ∀ (H' : Hp) (p l : Addr), WAt K H' p l (newW ly) → H p = none → H l = none → p ≠ l → Ext H H' → Q (.ref p) H'
/-- what a made writer leaves -/
theorem made_w {H H' : Hp} {x dx l C : Addr} {s : WSt} (nx : H x = none) (ndx : H dx = none) (ne : dx ≠ x) (hw : WAt K H' x l s) (hl : l = dx ∨ (upd (upd H dx (.own x)) x (.ins C dx [])) l = none) (o : Only' [x] (upd (upd H dx (.own x)) x (.ins C dx [])) H') :
    H l = none ∧ x ≠ l ∧ Ext H H' := by
  have e0 : Ext H (upd (upd H dx (.own x)) x (.ins C dx [])) := (Only'.put0 Only'.refl ndx).put0 nx
  refine ⟨?_, ?_, ?_⟩
  · rcases hl with h | h
    · rw [h]; exact ndx
    · exact (upd_none (upd_none h).2).2
  · rcases hl with h | h
    · rw [h]; exact ne.symm
    · exact (upd_none h).1.symm
  · refine ⟨fun b u hb _ => ?_, fun b u hb => ?_⟩
    · exact o b u (e0 b u hb (by simp)) (by simp; exact ne_of_none hb nx)
    · obtain ⟨u1, h1⟩ := e0.more b u hb
      exact o.more b u1 h1
end
end Flow

namespace Flow
open PySem PySem.Spec PyProof.Rows L2
theorem WFits.len : ∀ {ss : List WSt} {r : Row}, WFits ss r → r.length ≤ 16777216
  | [], _, h => h
  | _ :: _, _, h => h.1
theorem wfeed_cons (s : WSt) (b : Int) (r : Row) : wfeed s (b :: r) = ((wtake s b).1 ++ (wfeed (wtake s b).2 r).1, (wfeed (wtake s b).2 r).2) := rfl
theorem wthru_cons (s : WSt) (ss : List WSt) (r : Row) : wthru (s :: ss) r = ((wthru ss (wfeed s r).1).1, (wfeed s r).2 :: (wthru ss (wfeed s r).1).2) := rfl
theorem woks_set {ss : List WSt} {n : Nat} {s : WSt} (h : WOks ss) (hs : WOk s) : WOks (ss.set n s) := fun x hx => by
  rcases List.mem_or_eq_of_mem_set hx with h1 | h1
  · exact h x h1
  · rw [h1]; exact hs
def spThrough (K : PySem.W.Frag) : Sp := fun vs H Q _ => ∃ (a rw_ : Addr) (k : Nat) (ps : List (Addr × Addr)) (ss : List WSt) (row : Row), vs = [.ref a, .int (k : Int), .ref rw_] ∧ H a = some (.lst (pV ps)) ∧ Good (WAt K) H ps ss ∧ WOks ss ∧
  H rw_ = some (.lst (iV row)) ∧ rw_ ∉ flat ps ∧ Bys row ∧ WFits (ss.drop k) row ∧ k ≤ ps.length ∧ ps.length ≤ 1000 ∧
  ∀ (H' : Hp) (r : Addr) (ps' : List (Addr × Addr)), Step (WAt K) [] H ps ss H' ps' (ss.take k ++ (wthru (ss.drop k) row).2) → H' r = some (.lst (iV (wthru (ss.drop k) row).1)) → (r = rw_ ∨ H r = none) → r ∉ flat ps' → Q (.ref r) H'
section
variable {P : Program} {w : World} {K : PySem.W.Frag} {mg : Str → Option Value} {base : Heap}
end
end Flow

namespace Flow
open PySem PySem.Spec PyProof.Rows L2
theorem good_raw_lay {k : Str} {xs : Row} (h : goodRaw k xs = true) : ∃ ly : Lay, lkind ly = k ∧ largs ly = xs ∧ ly.Ok := by
  unfold goodRaw at h
  split at h
  · rename_i hk
    have hl : xs = [] := by
      have := of_decide_eq_true h
      unfold goodRaw.rawLen at this
      exact List.eq_nil_of_length_eq_zero (by omega)
    subst hl
    simp only [List.mem_cons, List.not_mem_nil, or_false] at hk
    rcases hk with rfl | rfl | rfl
    · exact ⟨.runs, rfl, rfl, trivial⟩
    · exact ⟨.front, rfl, rfl, trivial⟩
    · exact ⟨.signs, rfl, rfl, trivial⟩
  · split at h
    · rename_i hk
      subst hk
      unfold goodRaw.rawLen at h
      simp only [Bool.and_eq_true, decide_eq_true_eq, List.all_eq_true] at h
      obtain ⟨⟨h1, h2⟩, h3⟩ := h
      exact ⟨.add xs, rfl, rfl, by omega, by omega, fun b hb => by have := h3 b hb; unfold By; omega⟩
    · split at h
      · rename_i hk
        unfold goodRaw.rawLen at h
        simp only [Bool.and_eq_true, decide_eq_true_eq] at h
        obtain ⟨h1, h2, h3⟩ := h
        obtain ⟨x, rfl⟩ : ∃ x, xs = [x] := List.length_eq_one_iff.mp (by omega)
        have e : gI [x] 0 = x := rfl
        rw [e] at h2 h3
        simp only [List.mem_cons, List.not_mem_nil, or_false] at hk
        rcases hk with rfl | rfl
        · exact ⟨.chunks x, rfl, rfl, h2, h3⟩
        · exact ⟨.checks x, rfl, rfl, h2, h3⟩
      · unfold goodRaw.rawLen at h
        simp only [Bool.and_eq_true, decide_eq_true_eq] at h
        obtain ⟨hk, h1, h2, h3⟩ := h
        obtain ⟨x, rfl⟩ : ∃ x, xs = [x] := List.length_eq_one_iff.mp (by omega)
        have e : gI [x] 0 = x := rfl
        rw [e] at h2 h3
        subst hk
        exact ⟨.esc x, rfl, rfl, h2, by omega⟩
theorem good_all_lays : ∀ {ls : List (Str × Row)}, (ls.all fun q => goodRaw q.1 q.2) = true → ∃ lays : List Lay, ls = lays.map rawOf ∧ ∀ ly, ly ∈ lays → ly.Ok
  | [], _ => ⟨[], rfl, fun _ h => nomatch h⟩
  | (k, xs) :: r, h => by
    rw [List.all_cons, Bool.and_eq_true] at h
    obtain ⟨ly, e1, e2, ok⟩ := good_raw_lay h.1
    obtain ⟨lays, e, oks⟩ := good_all_lays h.2
    refine ⟨ly :: lays, ?_, fun x hx => ?_⟩
    · rw [e]
      show (k, xs) :: _ = rawOf ly :: _
      unfold rawOf
      rw [e1, e2]
    · rcases List.mem_cons.mp hx with z | z
      · rw [z]; exact ok
      · exact oks x z
theorem good_of_lays {lays : List Lay} (h : ∀ ly, ly ∈ lays → ly.Ok) (h8 : lays.length ≤ 8) : goodAll (lays.map rawOf) = true := by
  unfold goodAll
  rw [List.length_map, decide_eq_true h8, Bool.true_and, List.all_map, List.all_eq_true]
  intro ly hl
  exact good_lay (h ly hl)
theorem Good.snoc {S : Type} {A : Hp → Addr → Addr → S → Prop} {H : Hp} {ps : List (Addr × Addr)} {ss : List S} {p l : Addr} {s : S} (g : Good A H ps ss) (h : A H p l s) (hp : p ∉ flat ps) (hl : l ∉ flat ps) (hn : p ≠ l) : Good A H (ps ++ [(p, l)]) (ss ++ [s]) := by
  refine ⟨by rw [List.length_append, List.length_append, g.len]; rfl, fun i q m t h1 h2 => ?_, ?_⟩
  · by_cases hi : i < ps.length
    · rw [List.getElem?_append_left hi] at h1
      rw [List.getElem?_append_left (by rw [← g.len]; exact hi)] at h2
      exact g.at_ i q m t h1 h2
    · rw [List.getElem?_append_right (by omega)] at h1
      rw [List.getElem?_append_right (by rw [← g.len]; omega), ← g.len] at h2
      cases hd : i - ps.length with
      | zero =>
        rw [hd] at h1 h2
        have e1 := Option.some.inj h1
        have e2 := Option.some.inj h2
        injection e1 with e3 e4
        subst e2 e3 e4
        exact h
      | succ n =>
        rw [hd] at h1
        cases h1
  · rw [flat_app]
    refine List.nodup_append.mpr ⟨g.nd, ?_, ?_⟩
    · show [p, l].Nodup
      simp [hn]
    · intro a ha b hb e
      subst e
      have hb' : a ∈ [p, l] := hb
      rcases List.mem_cons.mp hb' with z | z
      · exact hp (z ▸ ha)
      · exact hl ((List.mem_singleton.mp z) ▸ ha)
/-- a Writer at p, its list of parts at c -/
structure WriterAt (K : PySem.W.Frag) (H : Hp) (p c : Addr) (ps : List (Addr × Addr)) (ss : List WSt) : Prop where
  ob : ∃ dx, H p = some (.ins (He.ga K "Writer") dx [("parts", .ref c)])
  cl : H c = some (.lst (pV ps))
  good : Good (WAt K) H ps ss
  np : p ∉ flat ps
  nc : c ∉ flat ps
  ok : WOks ss
  few : ps.length ≤ 8
theorem WriterAt.step {K : PySem.W.Frag} {H H' : Hp} {p c : Addr} {ps ps' : List (Addr × Addr)} {ss ss' : List WSt} (w : WriterAt K H p c ps ss) (st : Step (WAt K) [] H ps ss H' ps' ss') (ok : WOks ss') : WriterAt K H' p c ps' ss' := by
  obtain ⟨dx, ob⟩ := w.ob
  refine ⟨⟨dx, st.only p _ ob (by simpa using w.np)⟩, ?_, st.good, st.out ob w.np, st.out w.cl w.nc, ok, by rw [st.len]; exact w.few⟩
  rw [pV_fst st.fst]
  exact st.only c _ w.cl (by simpa using w.nc)
theorem WriterAt.ext {K : PySem.W.Frag} {H H' : Hp} {p c : Addr} {ps : List (Addr × Addr)} {ss : List WSt} (w : WriterAt K H p c ps ss) {Z : List Addr} (e : Only' Z H H') (h1 : p ∉ Z) (h2 : c ∉ Z) (h3 : ∀ x, x ∈ flat ps → x ∉ Z) : WriterAt K H' p c ps ss := by
  obtain ⟨dx, ob⟩ := w.ob
  exact ⟨⟨dx, e p _ ob h1⟩, e c _ w.cl h2, w.good.ext (WAt_parts K) e h3, w.np, w.nc, w.ok, w.few⟩
/-- what layers are handed in: raw ones; good: then these -/
def Handed (K : PySem.W.Frag) (H : Hp) (a : Addr) (ls : List (Str × Row)) : Prop := ∃ ts, SqL K H a (ts.map V.ref) ∧ RawAll K H ts ls
theorem Handed.ext {K : PySem.W.Frag} {H H' : Hp} {a : Addr} {ls : List (Str × Row)} (h : Handed K H a ls) (e : Ext H H') : Handed K H' a ls := by
  obtain ⟨ts, h1, h2⟩ := h
  exact ⟨ts, SqL.ext e h1, h2.ext e⟩
def spWriterInit (K : PySem.W.Frag) : Sp := fun vs H Q E => ∃ (p dx a : Addr) (ls : List (Str × Row)), vs = [.ref p, .ref a] ∧ H p = some (.ins (He.ga K "Writer") dx []) ∧ H dx = some (.own p) ∧ Handed K H a ls ∧
  (∀ lays : List Lay, ls = lays.map rawOf → (∀ ly, ly ∈ lays → ly.Ok) → lays.length ≤ 8 → ∀ (H' : Hp) (c : Addr) (ps : List (Addr × Addr)), WriterAt K H' p c ps (lays.map newW) → H c = none → (∀ x, x ∈ flat ps → H x = none) → Only' [p] H H' → Q .non H') ∧
  (goodAll ls = false → ∀ H', Ext H H' → E (.ref (He.ga K "BadLayer")) none H')
def spWriterTake (K : PySem.W.Frag) : Sp := fun vs H Q _ => ∃ (p c rw_ : Addr) (ps : List (Addr × Addr)) (ss : List WSt) (row : Row), vs = [.ref p, .ref rw_] ∧ WriterAt K H p c ps ss ∧ SqL K H rw_ (iV row) ∧ Bys row ∧ WFits ss row ∧
  ∀ (H' : Hp) (r : Addr) (ps' : List (Addr × Addr)), Step (WAt K) [] H ps ss H' ps' (wthru ss row).2 → WriterAt K H' p c ps' (wthru ss row).2 → H' r = some (.lst (iV (wthru ss row).1)) → H r = none → r ∉ flat ps' → Q (.ref r) H'
def spWriterEnd (K : PySem.W.Frag) : Sp := fun vs H Q _ => ∃ (p c : Addr) (ps : List (Addr × Addr)) (ss : List WSt), vs = [.ref p] ∧ WriterAt K H p c ps ss ∧ WEndFits ss.length ss ∧ (wendAll ss.length ss).length ≤ 16777216 ∧
  ∀ (H' : Hp) (r : Addr) (ps' : List (Addr × Addr)) (ss' : List WSt), Step (WAt K) [] H ps ss H' ps' ss' → H' r = some (.lst (iV (wendAll ss.length ss))) → H r = none → r ∉ flat ps' → Q (.ref r) H'
/-- what an end tells is no part's -/
theorem wend_apart {K : PySem.W.Frag} {H : Hp} {p l r : Addr} {s : WSt} (hw : WAt K H p l (wended s)) (hk : WOk s) (hr : H r = some (.lst (iV (wend s)))) : l ≠ r := by
  intro e
  subst e
  cases s <;> simp only [WAt, wended] at hw
  · obtain ⟨dx, _, h⟩ := hw
    rw [hr] at h
    have h1 : iV [] = iV _ := HO.lst.inj (Option.some.inj h)
    have := congrArg List.length h1
    rw [iV_length, iV_length] at this
    have := hk.1
    simp at *
    omega
  · obtain ⟨dx, _, h⟩ := hw
    rw [hr] at h
    have h1 : iV [] = iV _ := HO.lst.inj (Option.some.inj h)
    have := congrArg List.length h1
    rw [iV_length, iV_length] at this
    have := hk.1
    simp at *
    omega
  · obtain ⟨dx, _, h⟩ := hw
    rw [hr] at h
    have h1 : iV [] = iV _ := HO.lst.inj (Option.some.inj h)
    have := congrArg List.length h1
    rw [iV_length, iV_length] at this
    simp [marksOf] at this
  · rw [hr] at hw
    cases hw.2
  · obtain ⟨dx, _, h⟩ := hw
    rw [hr] at h
    have h1 : iV (_ :: _) = iV [] := HO.lst.inj (Option.some.inj h)
    have := congrArg List.length h1
    rw [iV_length, iV_length] at this
    simp at this
  · rw [hr] at hw
    cases hw.2
  · rw [hr] at hw
    cases hw.2
section
variable {P : Program} {w : World} {K : PySem.W.Frag} {mg : Str → Option Value} {base : Heap}
end
end Flow

namespace Flow
open PySem PySem.Spec PyProof.Rows L2
end Flow

namespace Flow
open PySem PySem.Spec PyProof.Rows L2
/-! ### what the laws draw from a script -/
def lcell (s : Row) (k : Int) : Int := if s = [] then 0 else gI s (k % (s.length : Int))
def lnum (s : Row) (k : Int) : Int := (lcell s k + 104729 * (k + 1)) % 4294967291 * 48271 % 4294967279
def lmix (s : Row) (k : Int) : Int := (lnum s k / 64 * 69621 + lnum s k) % 4294967231
theorem lmix_in (s : Row) (k : Int) : 0 ≤ lmix s k ∧ lmix s k < 4294967231 := ⟨Int.emod_nonneg _ (by decide), Int.emod_lt_of_pos _ (by decide)⟩
def spCell (K : PySem.W.Frag) : Sp := fun vs H Q _ => ∃ (a : Addr) (s : Row) (k : Int), vs = [.ref a, .int k] ∧ SqL K H a (iV s) ∧ Q (.int (lcell s k)) H
def spMix (K : PySem.W.Frag) : Sp := fun vs H Q _ => ∃ (a : Addr) (s : Row) (k : Int), vs = [.ref a, .int k] ∧ SqL K H a (iV s) ∧ Q (.int (lmix s k)) H
def spWhole : Sp := fun vs H Q _ => ∃ i : Int, vs = [.int i] ∧ Q (.bl true) H
def spLawLayer (K : PySem.W.Frag) : Sp := fun vs H Q _ => ∃ (a : Addr) (s : Row) (k : Int), vs = [.ref a, .int k] ∧ SqL K H a (iV s) ∧
  ∀ (ly : Lay) (H' : Hp) (t : Addr), ly.Ok → Ext H H' → H t = none → H' t = some (.tup (layV ly)) → Q (.ref t) H'
/-- layers that the law has made -/
structure Made (K : PySem.W.Frag) (H0 H : Hp) (ts : List Addr) (lays : List Lay) : Prop where
  len : ts.length = lays.length
  at_ : ∀ (i : Nat) (t : Addr) (ly : Lay), ts[i]? = some t → lays[i]? = some ly → H t = some (.tup (layV ly))
  new : ∀ t, t ∈ ts → H0 t = none
  oks : ∀ ly, ly ∈ lays → ly.Ok
theorem Made.ext {K : PySem.W.Frag} {H0 H H' : Hp} {ts : List Addr} {lays : List Lay} (m : Made K H0 H ts lays) (e : Ext H H') : Made K H0 H' ts lays := ⟨m.len, fun i t ly h1 h2 => e t _ (m.at_ i t ly h1 h2) (by simp), m.new, m.oks⟩
theorem Made.snoc {K : PySem.W.Frag} {H0 H : Hp} {ts : List Addr} {lays : List Lay} {t : Addr} {ly : Lay} (m : Made K H0 H ts lays) (h : H t = some (.tup (layV ly))) (n : H0 t = none) (ok : ly.Ok) : Made K H0 H (ts ++ [t]) (lays ++ [ly]) := by
  refine ⟨by rw [List.length_append, List.length_append, m.len]; rfl, fun i u l h1 h2 => ?_, fun u hu => ?_, fun l hl => ?_⟩
  · by_cases hi : i < ts.length
    · rw [List.getElem?_append_left hi] at h1
      rw [List.getElem?_append_left (by rw [← m.len]; exact hi)] at h2
      exact m.at_ i u l h1 h2
    · rw [List.getElem?_append_right (by omega)] at h1
      rw [List.getElem?_append_right (by rw [← m.len]; omega), ← m.len] at h2
      cases hd : i - ts.length with
      | zero =>
        rw [hd] at h1 h2
        have e1 : t = u := Option.some.inj h1
        have e2 : ly = l := Option.some.inj h2
        subst e1 e2
        exact h
      | succ j =>
        rw [hd] at h1
        cases h1
  · rcases List.mem_append.mp hu with z | z
    · exact m.new u z
    · rw [List.mem_singleton.mp z]; exact n
  · rcases List.mem_append.mp hl with z | z
    · exact m.oks l z
    · rw [List.mem_singleton.mp z]; exact ok
theorem lay_few {ly : Lay} (ok : ly.Ok) : (largs ly).length ≤ 8 := by
  cases ly <;> simp only [largs] <;> first | exact ok.2.1 | (simp)
theorem Made.raw {K : PySem.W.Frag} {H0 H : Hp} {ts : List Addr} {lays : List Lay} (m : Made K H0 H ts lays) : RawAll K H ts (lays.map rawOf) := by
  refine ⟨by rw [List.length_map]; exact m.len, fun i t k xs h1 h2 => ?_, fun i k xs h2 => ?_⟩
  · rw [List.getElem?_map] at h2
    cases e : lays[i]? with
    | none => rw [e] at h2; cases h2
    | some ly =>
      rw [e] at h2
      have e2 : rawOf ly = (k, xs) := Option.some.inj h2
      injection e2 with e3 e4
      subst e3 e4
      exact SqT.of (m.at_ i t ly h1 e)
  · rw [List.getElem?_map] at h2
    cases e : lays[i]? with
    | none => rw [e] at h2; cases h2
    | some ly =>
      rw [e] at h2
      have e2 : rawOf ly = (k, xs) := Option.some.inj h2
      injection e2 with e3 e4
      subst e3 e4
      have := lay_few (m.oks ly (List.mem_of_getElem? e))
      omega
theorem Made.handed {K : PySem.W.Frag} {H0 H : Hp} {a : Addr} {ts : List Addr} {lays : List Lay} (m : Made K H0 H ts lays) (h : H a = some (.lst (ts.map V.ref))) : Handed K H a (lays.map rawOf) := ⟨ts, SqL.of h, m.raw⟩
def spLawLayers (K : PySem.W.Frag) : Sp := fun vs H Q _ => ∃ (a : Addr) (s : Row) (k : Int) (most : Nat), vs = [.ref a, .int k, .int (most : Int)] ∧ SqL K H a (iV s) ∧ most ≤ 100 ∧
  ∀ (lays : List Lay) (ts : List Addr) (H' : Hp) (r : Addr), lays.length ≤ most → Ext H H' → H r = none → H' r = some (.lst (ts.map V.ref)) → Made K H H' ts lays → Q (.ref r) H'
def spLawRow (K : PySem.W.Frag) : Sp := fun vs H Q _ => ∃ (a : Addr) (s : Row) (k : Int) (most : Nat) (long : Bool), vs = [.ref a, .int k, .int (most : Int), .bl long] ∧ SqL K H a (iV s) ∧ most ≤ 100 ∧
  ∀ (row : Row) (H' : Hp) (r : Addr), Bys row → (row.length ≤ 256 + 4 * most ∧ (long = false → row.length ≤ 4 * most ∧ ∃ pcs, pcs.length ≤ most ∧ row = flatR pcs)) → Ext H H' → H r = none → H' r = some (.lst (iV row)) → Q (.ref r) H'
def spIsRow (K : PySem.W.Frag) : Sp := fun vs H Q _ => ∃ (a : Addr) (row : Row), vs = [.ref a] ∧ H a = some (.lst (iV row)) ∧ Bys row ∧ row.length ≤ 16777216 ∧ ∀ H', Ext H H' → Q (.bl true) H'
section
variable {P : Program} {w : World} {K : PySem.W.Frag} {mg : Str → Option Value} {base : Heap}
theorem ok_law_cell (T : Tx K mg) : DefOk P w K mg base 1 (He.ga K "_law_cell") ["_law_script", "_law_k"] (spCell K) := by
  refine def_ok (N := n_law_cell) (fn_law_cell T) sc_law_cell (fun _ _ _ _ _ _ us hl => match us, hl with | [_, _], _ => rfl) (fun vs H Q E h => ?_) (fun cdv A outer s H vs Q E hr h => ?_)
  · obtain ⟨a, s, k, rfl, _⟩ := h
    rfl
  · obtain ⟨a, s, k, rfl, hs, q⟩ := h
    refine ⟨_, [_, _], (pss_cons (ps_if (pt_truthS (pv 0) (by intro _; rfl)) (pss_one (ps_ret (pe_ix ix_list (pv 0) (pe_op op_modN (pv 1) (pe_callB call_lenS rfl (f_len T) (by decide +kernel) (pa_cons (pv 0) pa_nil))) (fun _ _ => rfl)))) pss_nil)
      (pss_one (ps_ret pe_int))), rfl, ?_⟩
    try dsimp only [cxOf]
    wtm_at "x"
    refine x_truL hs ?_
    cases s with
    | nil =>
      refine iteF ?_
      wtm_at "x"
      exact q
    | cons y r =>
      refine iteT ?_
      wtm_at "x"
      have e : k.fmod ((iV (y :: r)).length : Int) = k % ((y :: r).length : Int) := by rw [iV_length, fmod_pos (by omega)]
      refine x_rI (by rw [iV_length, List.length_cons]; omega) ?_
      rw [e]
      have hl : (0 : Int) < ((y :: r).length : Int) := by rw [List.length_cons]; omega
      refine x_ixL hs (gI_at (Int.emod_nonneg _ (by omega)) (Int.emod_lt_of_pos _ hl)) ?_
      wtm_at "x"
      have e2 : lcell (y :: r) k = gI (y :: r) (k % ((y :: r).length : Int)) := if_neg (by intro z; cases z)
      rw [e2] at q
      exact q
theorem ok_law_mix (T : Tx K mg) : DefOk P w K mg base 2 (He.ga K "_law_mix") ["_law_script", "_law_k"] (spMix K) := by
  have D_law_cell := ok_law_cell (P := P) (w := w) (base := base) T
  refine def_ok (N := n_law_mix) (fn_law_mix T) sc_law_mix (fun _ _ _ _ _ _ us hl => match us, hl with | [_, _], _ => rfl) (fun vs H Q E h => ?_) (fun cdv A outer s H vs Q E hr h => ?_)
  · obtain ⟨a, s, k, rfl, _⟩ := h
    rfl
  · obtain ⟨a, s, k, rfl, hs, q⟩ := h
    refine ⟨_, [_, _, _], (pss_cons (ps_set (i := 2) sc_law_mix.nd rfl (Or.inl rfl) (pe_op op_mod (pe_op op_add (pe_fn D_law_cell (g_law_cell T) (hr.mono (by first | decide | omega)) (fun _ => passE) (pa_cons (pv 0) (pa_cons (pv 1) pa_nil))) (pe_op op_mul pe_int (pe_op op_add (pv 1) pe_int))) pe_int))
      (pss_cons (ps_set (i := 2) sc_law_mix.nd rfl (Or.inl rfl) (pe_op op_mod (pe_op op_mul (pv 2) pe_int) pe_int))
      (pss_one (ps_ret (pe_op op_mod (pe_op op_add (pe_op op_mul (pe_op op_fdiv (pv 2) pe_int) pe_int) (pv 2)) pe_int))))), rfl, ?_⟩
    try dsimp only [cxOf]
    wtm_at "x"
    refine ⟨a, s, k, rfl, hs, ?_⟩
    wtm_at "x"
    exact q
theorem ok_law_whole (T : Tx K mg) : DefOk P w K mg base 1 (He.ga K "_law_whole") ["_law_found"] spWhole := by
  refine def_ok (N := n_law_whole) (fn_law_whole T) sc_law_whole (fun _ _ _ _ _ _ us hl => match us, hl with | [_], _ => rfl) (fun vs H Q E h => ?_) (fun cdv A outer s H vs Q E hr h => ?_)
  · obtain ⟨i, rfl, _⟩ := h
    rfl
  · obtain ⟨i, rfl, q⟩ := h
    refine ⟨_, [_], (pss_one (ps_ret (pe_and (pe_callB call_isi rfl (f_isinstance T) (by decide +kernel) (pa_cons (pv 0) (pa_cons (pe_bltn (v := .ty "int") rfl (f_int T) (by decide +kernel) rfl) pa_nil))) (pe_one (pe_not (pe_callB call_isi rfl (f_isinstance T) (by decide +kernel) (pa_cons (pv 0) (pa_cons (pe_bltn (v := .ty "bool") rfl (f_bool T) (by decide +kernel) rfl) pa_nil)))))))), rfl, ?_⟩
    try dsimp only [cxOf]
    wtm_at "x"
    refine x_isiI (b := true) (by decide +kernel) ?_
    wtm_at "x"
    refine x_isiI (b := false) (by decide +kernel) ?_
    wtm_at "x"
    exact q
theorem ok_law_layer (T : Tx K mg) : DefOk P w K mg base 3 (He.ga K "_law_layer") ["_law_script", "_law_k"] (spLawLayer K) := by
  have D_law_mix := ok_law_mix (P := P) (w := w) (base := base) T
  refine def_ok (N := n_law_layer) (fn_law_layer T) sc_law_layer (fun _ _ _ _ _ _ us hl => match us, hl with | [_, _], _ => rfl) (fun vs H Q E h => ?_) (fun cdv A outer s H vs Q E hr h => ?_)
  · obtain ⟨a, s, k, rfl, _⟩ := h
    rfl
  · obtain ⟨a, s, k, rfl, hs, q⟩ := h
    obtain ⟨m0, m1⟩ := lmix_in s k
    refine ⟨_, [_, _, _, _, _], (pss_cons (ps_set (i := 2) sc_law_layer.nd rfl (Or.inl rfl) (pe_fn D_law_mix (g_law_mix T) (hr.mono (by first | decide | omega)) (fun _ => passE) (pa_cons (pv 0) (pa_cons (pv 1) pa_nil))))
      (pss_cons (ps_set (i := 3) sc_law_layer.nd rfl (Or.inl rfl) (pe_ix ix_list (pe_lst (pa_cons pe_str (pa_cons pe_str (pa_cons pe_str (pa_cons pe_str (pa_cons pe_str (pa_cons pe_str (pa_cons pe_str (pa_cons pe_str pa_nil))))))))) (pe_op op_mod (pv 2) pe_int) (fun _ _ => rfl)))
      (pss_cons (ps_if (pt_cmpR op_eq (pv 3) pe_str (nomark _)) (pss_one (ps_ret (pe_op op_catT (pe_tup (pa_cons (pv 3) pa_nil)) (pe_callTy call_tupleS rfl (f_tuple T) (by decide +kernel) (pa_cons (pe_lc (own := [("_law_j", 4)]) (g := gName 4) (tt := tYes) rfl sc_law_layer.nd (pi_range1 rfl (f_range T) (pa_cons (pe_op op_add pe_int (pe_op op_mod (pe_op op_fdiv (pv 2) pe_int) pe_int)) pa_nil)) (blkOk_by (own := [("_law_j", 4)]) (N := n_law_layer) (sc := defScope s_law_layer) (by decide +kernel)) (fun _ _ _ _ _ => pg_name (i := 4) sc_law_layer.nd rfl (Or.inl rfl)) (fun _ _ _ _ _ => pts_nil) (fun _ _ _ _ _ => (pe_op op_mod (pe_op op_fdiv (pe_fn D_law_mix (g_law_mix T) (hr.mono (by first | decide | omega)) (fun _ => passE) (pa_cons (pv 0) (pa_cons (pe_op op_add (pe_op op_add (pv 1) pe_int) (pv 4)) pa_nil))) pe_int) pe_int))) pa_nil))))) pss_nil)
      (pss_cons (ps_if (pt_cmpR op_eq (pv 3) pe_str (nomark _)) (pss_one (ps_ret (pe_tup (pa_cons (pv 3) (pa_cons (pe_ix ix_list (pe_lst (pa_cons pe_int (pa_cons pe_int (pa_cons pe_int (pa_cons pe_int (pa_cons pe_int (pa_cons (pe_op op_mod (pe_op op_fdiv (pv 2) pe_int) pe_int) pa_nil))))))) (pe_op op_mod (pe_op op_fdiv (pv 2) pe_int) pe_int) (fun _ _ => rfl)) pa_nil))))) pss_nil)
      (pss_cons (ps_if (pt_cmpR op_in_seq (pv 3) (pe_tup (pa_cons pe_str (pa_cons pe_str pa_nil))) (by rfl)) (pss_one (ps_ret (pe_tup (pa_cons (pv 3) (pa_cons (pe_ix ix_list (pe_lst (pa_cons pe_int (pa_cons pe_int (pa_cons pe_int (pa_cons pe_int (pa_cons pe_int (pa_cons (pe_op op_add pe_int (pe_op op_mod (pe_op op_fdiv (pv 2) pe_int) pe_int)) pa_nil))))))) (pe_op op_mod (pe_op op_fdiv (pv 2) pe_int) pe_int) (fun _ _ => rfl)) pa_nil))))) pss_nil)
      (pss_one (ps_ret (pe_tup (pa_cons (pv 3) pa_nil))))))))), rfl, ?_⟩
    try dsimp only [cxOf]
    wtm_at "x"
    refine ⟨a, s, k, rfl, hs, ?_⟩
    wtm_at "x"
    intro p1 hp1
    have e1 : Ext H (upd H p1 (.lst [V.str "add", V.str "front", V.str "escape", V.str "runs", V.str "chunks", V.str "checks", V.str "signs", V.str "checks"])) := Only'.put0 Only'.refl hp1
    wtm_at "x"
    refine x_ixW (["add", "front", "escape", "runs", "chunks", "checks", "signs", "checks"] : List Str) upd_same (by omega) (by show _ < (8 : Int); omega) fun z hz => ?_
    generalize hH1 : upd H p1 (.lst [V.str "add", V.str "front", V.str "escape", V.str "runs", V.str "chunks", V.str "checks", V.str "signs", V.str "checks"]) = H1 at *
    wtm_at "x"
    refine ite_d (fun ha => ?_) fun ha => ?_
    · wtm_at "x"
      intro p2 hp2
      wtm_at "x"
      have e2 : Ext H (upd H1 p2 (.tup [V.str z])) := e1.new hp2
      refine x_rLcR (k := (1 + lmix s k / 8 % 8).toNat) (fun i => V.int (lmix s (k + 1 + (i : Int)) / 3 % 256)) (by omega) (by omega) (fun _ => rfl) (fun i H2 hi e3 Q' kq => ?_) fun l H2 hl e3 h2 => ?_
      · wtm_at "x"
        refine ⟨a, s, _, rfl, SqL.ext (e2.trans e3) hs, ?_⟩
        wtm_at "x"
        exact kq _ Only'.refl
      · have hrow : (List.range (1 + lmix s k / 8 % 8).toNat).map (fun i : Nat => V.int (lmix s (k + 1 + (i : Int)) / 3 % 256)) = iV ((List.range (1 + lmix s k / 8 % 8).toNat).map fun i : Nat => lmix s (k + 1 + (i : Int)) / 3 % 256) := by
          unfold iV
          rw [List.map_map]
          rfl
        rw [hrow] at h2
        have hlen : ((List.range (1 + lmix s k / 8 % 8).toNat).map fun i : Nat => lmix s (k + 1 + (i : Int)) / 3 % 256).length = (1 + lmix s k / 8 % 8).toNat := by rw [List.length_map, List.length_range]
        have hbys : Bys ((List.range (1 + lmix s k / 8 % 8).toNat).map fun i : Nat => lmix s (k + 1 + (i : Int)) / 3 % 256) := fun b hb => by
          obtain ⟨i, _, rfl⟩ := List.mem_map.mp hb
          exact by_mod _
        generalize ((List.range (1 + lmix s k / 8 % 8).toNat).map fun i : Nat => lmix s (k + 1 + (i : Int)) / 3 % 256) = key at *
        wtm_at "x"
        refine x_tupleOfL (SqL.of h2) fun t2 ht2 => ?_
        wtm_at "x"
        have hp22 : (upd H2 t2 (.tup (iV key))) p2 = some (.tup [V.str z]) := upd_get (ne_of_none (e3 p2 _ upd_same (by simp)) ht2) (e3 p2 _ upd_same (by simp))
        have e4 : Ext H (upd H2 t2 (.tup (iV key))) := (e2.trans e3).new ht2
        refine x_catT (SqT.of hp22) (SqT.of upd_same) (by simp) (by intro y; have := congrArg List.length y; rw [iV_length, hlen] at this; simp at this; omega) (by rw [iV_length, hlen, sizeLine_eq]; simp; omega) fun r hr => ?_
        wtm_at "x"
        subst ha
        exact q (.add key) _ r ⟨by omega, by omega, hbys⟩ (e4.new hr) (e4.free hr) upd_same
    · wtm_at "x"
      refine ite_d (fun hb => ?_) fun hb => ?_
      · wtm_at "x"
        intro p2 hp2
        wtm_at "x"
        refine x_ixI [0, 1, 253, 254, 255, lmix s k / 8 % 256] upd_same (by omega) (by show _ < (6 : Int); omega) fun x hx => ?_
        have hbx : By x := by
          simp only [List.mem_cons, List.not_mem_nil, or_false] at hx
          unfold By
          omega
        wtm_at "x"
        intro r hr
        subst hb
        exact q (.esc x) _ r hbx ((e1.new hp2).new hr) ((e1.new hp2).free hr) upd_same
      · wtm_at "x"
        intro p2 hp2
        refine x_inS (["chunks", "checks"] : List Str) (Or.inr (SqT.of upd_same)) ?_
        wtm_at "x"
        refine ite_d (fun hc => ?_) fun hc => ?_
        · wtm_at "x"
          intro p3 hp3
          wtm_at "x"
          refine x_ixI [1, 2, 3, 5, 255, 1 + lmix s k / 8 % 255] upd_same (by omega) (by show _ < (6 : Int); omega) fun x hx => ?_
          have hbx : 1 ≤ x ∧ x ≤ 255 := by
            simp only [List.mem_cons, List.not_mem_nil, or_false] at hx
            omega
          wtm_at "x"
          intro r hr
          have e5 : Ext H (upd (upd H1 p2 (.tup [V.str "chunks", V.str "checks"])) p3 (.lst [V.int 1, V.int 2, V.int 3, V.int 5, V.int 255, V.int (1 + lmix s k / 8 % 255)])) := (e1.new hp2).new hp3
          rcases List.mem_cons.mp hc with hc | hc
          · subst hc
            exact q (.chunks x) _ r hbx (e5.new hr) (e5.free hr) upd_same
          · have hc := List.mem_singleton.mp hc
            subst hc
            exact q (.checks x) _ r hbx (e5.new hr) (e5.free hr) upd_same
        · wtm_at "x"
          intro r hr
          have e5 : Ext H (upd H1 p2 (.tup [V.str "chunks", V.str "checks"])) := e1.new hp2
          have hz2 : z = "front" ∨ z = "runs" ∨ z = "signs" := by
            simp only [List.mem_cons, List.not_mem_nil, or_false] at hz hc
            rcases hz with h | h | h | h | h | h | h | h
            · exact absurd h ha
            · exact Or.inl h
            · exact absurd h hb
            · exact Or.inr (Or.inl h)
            · exact absurd (Or.inl h) hc
            · exact absurd (Or.inr h) hc
            · exact Or.inr (Or.inr h)
            · exact absurd (Or.inr h) hc
          rcases hz2 with rfl | rfl | rfl
          · exact q .front _ r trivial (e5.new hr) (e5.free hr) upd_same
          · exact q .runs _ r trivial (e5.new hr) (e5.free hr) upd_same
          · exact q .signs _ r trivial (e5.new hr) (e5.free hr) upd_same
theorem ok_law_layers (T : Tx K mg) : DefOk P w K mg base 4 (He.ga K "_law_layers") ["_law_script", "_law_k", "_law_most"] (spLawLayers K) := by
  have D_law_mix := ok_law_mix (P := P) (w := w) (base := base) T
  have D_law_layer := ok_law_layer (P := P) (w := w) (base := base) T
  refine def_ok (N := n_law_layers) (fn_law_layers T) sc_law_layers (fun _ _ _ _ _ _ us hl => match us, hl with | [_, _, _], _ => rfl) (fun vs H Q E h => ?_) (fun cdv A outer s H vs Q E hr h => ?_)
  · obtain ⟨a, s, k, most, rfl, _⟩ := h
    rfl
  · obtain ⟨a, s, k, most, rfl, hs, hm, q⟩ := h
    obtain ⟨m0, m1⟩ := lmix_in s k
    refine ⟨_, [_, _, _, _], (pss_one (ps_ret (pe_lc (own := [("_law_j", 3)]) (g := gName 3) (tt := tYes) rfl sc_law_layers.nd (pi_range1 rfl (f_range T) (pa_cons (pe_op op_modN (pe_fn D_law_mix (g_law_mix T) (hr.mono (by first | decide | omega)) (fun _ => passE) (pa_cons (pv 0) (pa_cons (pv 1) pa_nil))) (pe_op op_add (pv 2) pe_int)) pa_nil)) (blkOk_by (own := [("_law_j", 3)]) (N := n_law_layers) (sc := defScope s_law_layers) (by decide +kernel)) (fun _ _ _ _ _ => pg_name (i := 3) sc_law_layers.nd rfl (Or.inl rfl)) (fun _ _ _ _ _ => pts_nil) (fun _ _ _ _ _ => (pe_fn D_law_layer (g_law_layer T) (hr.mono (by first | decide | omega)) (fun _ => passE) (pa_cons (pv 0) (pa_cons (pe_op op_add (pe_op op_add (pv 1) pe_int) (pe_op op_mul pe_int (pv 3))) pa_nil))))))), rfl, ?_⟩
    try dsimp only [cxOf]
    wtm_at "x"
    refine ⟨a, s, k, rfl, hs, ?_⟩
    wtm_at "x"
    have e0 : (lmix s k).fmod ((most : Int) + 1) = lmix s k % ((most : Int) + 1) := fmod_pos (by omega)
    have b0 := Int.emod_nonneg (lmix s k) (show ((most : Int) + 1) ≠ 0 by omega)
    have b1 := Int.emod_lt_of_pos (lmix s k) (show (0 : Int) < (most : Int) + 1 by omega)
    rw [e0]
    generalize lmix s k % ((most : Int) + 1) = n at *
    refine ⟨n, rfl, by omega, by omega, fun D hD => lc_range (lo := 0) (n := n.toNat) (fun i H' => ∃ (ts : List Addr) (lays : List Lay), ts.length = i ∧ Made K H H' ts lays ∧ H' D = some (.lst (ts.map V.ref)) ∧ Ext H H')
      ⟨[], [], rfl, ⟨rfl, fun i t ly h => by simp at h, (fun _ h => nomatch h), (fun _ h => nomatch h)⟩, upd_same, Only'.put0 Only'.refl hD⟩ ?_ ?_⟩
    · rintro i H' hi ⟨ts, lays, hl, hmd, hDl, e⟩
      rw [Int.zero_add]
      refine ⟨rfl, ?_⟩
      unfold tYes
      dsimp only
      wtm_at "x"
      refine ⟨a, s, _, rfl, SqL.ext e hs, fun ly H2 t ok e2 ht htv => ?_⟩
      have hD2 := e2 D _ hDl (by simp)
      have hnt : D ≠ t := ne_of_none hDl ht
      refine ⟨ts.map V.ref, hD2, by rw [List.length_map, hl, sizeLine_eq]; omega, ts ++ [t], lays ++ [ly], by rw [List.length_append, hl]; rfl, ?_, ?_, ?_⟩
      · have m2 := (hmd.ext e2).snoc htv (e.free ht) ok
        refine ⟨m2.len, fun j u l h1 h2 => ?_, m2.new, m2.oks⟩
        have := m2.at_ j u l h1 h2
        refine upd_get (fun z => ?_) this
        rw [z, hD2] at this
        cases this
      · rw [upd_same, List.map_append]
        rfl
      · exact (e.trans e2).put0 hD
    · rintro H' ⟨ts, lays, hl, hmd, hDl, e⟩
      exact q lays ts H' D (by rw [← hmd.len, hl]; omega) e hD hDl hmd
theorem ok_law_row (T : Tx K mg) : DefOk P w K mg base 3 (He.ga K "_law_row") ["_law_script", "_law_k", "_law_pieces", "_law_long"] (spLawRow K) := by
  have D_law_mix := ok_law_mix (P := P) (w := w) (base := base) T
  refine def_ok (N := n_law_row) (fn_law_row T) sc_law_row (fun _ _ _ _ _ _ us hl => match us, hl with | [_, _, _, _], _ => rfl) (fun vs H Q E h => ?_) (fun cdv A outer s H vs Q E hr h => ?_)
  · obtain ⟨a, s, k, most, long, rfl, _⟩ := h
    rfl
  · obtain ⟨a, s, k, most, long, rfl, hs, hm, q⟩ := h
    refine ⟨_, [_, _, _, _, _, _, _, _, _], (pss_cons (ps_set (i := 4) sc_law_row.nd rfl (Or.inl rfl) (pe_lst pa_nil))
      (pss_cons (ps_for (passes_of rfl) rfl (pi_range1 rfl (f_range T) (pa_cons (pe_op op_modN (pe_fn D_law_mix (g_law_mix T) (hr.mono (by first | decide | omega)) (fun _ => passE) (pa_cons (pv 0) (pa_cons (pv 1) pa_nil))) (pe_op op_add (pv 2) pe_int)) pa_nil)) (pg_name (i := 5) sc_law_row.nd rfl (Or.inl rfl)) (pss_cons (ps_set (i := 6) sc_law_row.nd rfl (Or.inl rfl) (pe_fn D_law_mix (g_law_mix T) (hr.mono (by first | decide | omega)) (fun _ => passE) (pa_cons (pv 0) (pa_cons (pe_op op_add (pe_op op_add (pv 1) pe_int) (pv 5)) pa_nil))))
      (pss_cons (ps_set (i := 7) sc_law_row.nd rfl (Or.inl rfl) (pe_ix ix_list (pe_lst (pa_cons pe_int (pa_cons pe_int (pa_cons pe_int (pa_cons pe_int (pa_cons (pe_op op_mod (pe_op op_fdiv (pv 6) pe_int) pe_int) (pa_cons (pe_op op_mod (pe_op op_fdiv (pv 6) pe_int) pe_int) pa_nil))))))) (pe_op op_mod (pv 6) pe_int) (fun _ _ => rfl)))
      (pss_cons (ps_set (i := 8) sc_law_row.nd rfl (Or.inl rfl) (pe_ix ix_list (pe_lst (pa_cons pe_int (pa_cons pe_int (pa_cons pe_int (pa_cons pe_int (pa_cons pe_int (pa_cons pe_int (pa_cons pe_int (pa_cons pe_int pa_nil))))))))) (pe_op op_mod (pe_op op_fdiv (pv 6) pe_int) pe_int) (fun _ _ => rfl)))
      (pss_cons (ps_if (PW.pt (pw_and (pt_cmpR op_eq (pv 5) pe_int (nomark _)) (pw_and (pt_val (pv 3)) (pw_and1 (pt_cmpR op_eq (pe_op op_mod (pe_op op_fdiv (pv 6) pe_int) pe_int) pe_int (nomark _)))))) (pss_one (ps_set (i := 8) sc_law_row.nd rfl (Or.inl rfl) (pe_ix ix_list (pe_lst (pa_cons pe_int (pa_cons pe_int (pa_cons pe_int (pa_cons pe_int pa_nil))))) (pe_op op_mod (pe_op op_fdiv (pv 6) pe_int) pe_int) (fun _ _ => rfl)))) pss_nil)
      (pss_one (ps_set (i := 4) sc_law_row.nd rfl (Or.inl rfl) (pe_op op_cat (pv 4) (pe_op op_rep (pe_lst (pa_cons (pv 7) pa_nil)) (pv 8))))))))))
      (pss_one (ps_ret (pv 4))))), rfl, ?_⟩
    try dsimp only [cxOf]
    wtm_at "x"
    intro f0 hf0
    have e0 : Ext H (upd H f0 (.lst [])) := Only'.put0 Only'.refl hf0
    wtm_at "x"
    refine ⟨a, s, k, rfl, SqL.ext e0 hs, ?_⟩
    wtm_at "x"
    have em : (lmix s k).fmod ((most : Int) + 1) = lmix s k % ((most : Int) + 1) := fmod_pos (by omega)
    have b0 := Int.emod_nonneg (lmix s k) (show ((most : Int) + 1) ≠ 0 by omega)
    have b1 := Int.emod_lt_of_pos (lmix s k) (show (0 : Int) < (most : Int) + 1 by omega)
    rw [em]
    generalize lmix s k % ((most : Int) + 1) = n at *
    refine x_rForR1 (k := n.toNat) (by omega) (by omega) (fun i σ H' => ∃ (row : Row) (f : Addr) (v5 v6 v7 v8 : Option V), σ = [some (.ref a), some (.int k), some (.int (most : Int)), some (.bl long), some (.ref f), v5, v6, v7, v8] ∧
        H' f = some (.lst (iV row)) ∧ H f = none ∧ Ext H H' ∧ Bys row ∧ row.length ≤ 252 * min i 1 + 4 * i ∧ (long = false → row.length ≤ 4 * i ∧ ∃ pcs, pcs.length = i ∧ row = flatR pcs))
      ⟨[], f0, none, none, none, none, rfl, upd_same, hf0, e0, bys_nil, by simp, fun _ => ⟨Nat.le_refl _, [], rfl, rfl⟩⟩ ?_ ?_
    · rintro i σ H' hi ⟨row, f, v5, v6, v7, v8, rfl, hf, hfn, e, hby, hlen, hsm⟩
      obtain ⟨n0, n1⟩ := lmix_in s (k + 1 + (i : Int))
      wtm_at "x"
      refine ⟨a, s, _, rfl, SqL.ext e hs, ?_⟩
      generalize lmix s (k + 1 + (i : Int)) = nn at *
      wtm_at "x"
      intro p1 hp1
      wtm_at "x"
      refine x_ixI [0, 1, 2, 255, nn / 16 % 256, nn / 16 % 256] upd_same (by omega) (by show _ < (6 : Int); omega) fun b hb => ?_
      have hbb : By b := by
        simp only [List.mem_cons, List.not_mem_nil, or_false] at hb
        unfold By
        omega
      wtm_at "x"
      intro p2 hp2
      wtm_at "x"
      refine x_ixI [1, 1, 2, 3, 1, 1, 4, 1] upd_same (by omega) (by show _ < (8 : Int); omega) fun m hm2 => ?_
      have hmm : 1 ≤ m ∧ m ≤ 4 := by
        simp only [List.mem_cons, List.not_mem_nil, or_false] at hm2
        omega
      have e2 : Ext H (upd (upd H' p1 (.lst [V.int 0, V.int 1, V.int 2, V.int 255, V.int (nn / 16 % 256), V.int (nn / 16 % 256)])) p2 (.lst [V.int 1, V.int 1, V.int 2, V.int 3, V.int 1, V.int 1, V.int 4, V.int 1])) := (e.new hp1).new hp2
      have hf2 : (upd (upd H' p1 (.lst [V.int 0, V.int 1, V.int 2, V.int 255, V.int (nn / 16 % 256), V.int (nn / 16 % 256)])) p2 (.lst [V.int 1, V.int 1, V.int 2, V.int 3, V.int 1, V.int 1, V.int 4, V.int 1])) f = some (.lst (iV row)) :=
        upd_get (ne_of_none (upd_get (ne_of_none hf hp1) hf) hp2) (upd_get (ne_of_none hf hp1) hf)
      generalize (upd (upd H' p1 (.lst [V.int 0, V.int 1, V.int 2, V.int 255, V.int (nn / 16 % 256), V.int (nn / 16 % 256)])) p2 (.lst [V.int 1, V.int 1, V.int 2, V.int 3, V.int 1, V.int 1, V.int 4, V.int 1])) = H2 at *
      have fin : ∀ (m : Int) (H3 : Hp), 0 ≤ m → m ≤ 256 → (i ≠ 0 → m ≤ 4) → (long = false → m ≤ 4) → Ext H H3 → H3 f = some (.lst (iV row)) → ∀ p3, H3 p3 = none → ∀ (Q' : VK), (∀ (r : Addr) (H4 : Hp), H4 r = some (.lst (iV (row ++ List.replicate m.toNat b))) → H r = none → Ext H H4 → Bys (row ++ List.replicate m.toNat b) → (row ++ List.replicate m.toNat b).length ≤ 252 * min (i + 1) 1 + 4 * (i + 1) → (long = false → (row ++ List.replicate m.toNat b).length ≤ 4 * (i + 1) ∧ ∃ pcs, pcs.length = i + 1 ∧ row ++ List.replicate m.toNat b = flatR pcs) → Q' (.ref r) H4) →
          rRep (.ref p3) (.int m) (upd H3 p3 (.lst [V.int b])) fun y H5 => rCat (.ref f) y H5 Q' := by
        intro m H3 h0 h1 h2 h4 e3 hf3 p3 hp3 Q' kq
        refine x_rep1 upd_same h0 (by omega) fun p4 hp4 => ?_
        have hl2 : (row ++ List.replicate m.toNat b).length ≤ 252 * min (i + 1) 1 + 4 * (i + 1) := by
          rw [List.length_append, List.length_replicate]
          by_cases hi0 : i = 0
          · subst hi0
            simp at hlen ⊢
            subst hlen
            simp
            omega
          · have := h2 hi0
            have e1 : min i 1 = 1 := by omega
            have e2 : min (i + 1) 1 = 1 := by omega
            rw [e1] at hlen
            rw [e2]
            omega
        have er : List.replicate m.toNat (V.int b) = iV (List.replicate m.toNat b) := by
          unfold iV
          rw [List.map_replicate]
        have hf4 : (upd (upd H3 p3 (.lst [V.int b])) p4 (.lst (List.replicate m.toNat (V.int b)))) f = some (.lst (iV row)) := upd_get (ne_of_none (upd_get (ne_of_none hf3 hp3) hf3) hp4) (upd_get (ne_of_none hf3 hp3) hf3)
        have e4 : Ext H (upd (upd H3 p3 (.lst [V.int b])) p4 (.lst (List.replicate m.toNat (V.int b)))) := (e3.new hp3).new hp4
        refine x_cat hf4 upd_same (by
          rw [List.length_replicate, iV_length, sizeLine_eq]
          rw [List.length_append, List.length_replicate] at hl2
          omega) fun r hr => ?_
        refine kq r _ (by rw [upd_same, iV_append, er]) (e4.free hr) (e4.new hr) (bys_app hby fun x hx => ?_) hl2 fun hl0 => by
          obtain ⟨g1, pcs, g2, g3⟩ := hsm hl0
          have := h4 hl0
          refine ⟨?_, pcs ++ [(m.toNat, b)], by rw [List.length_append, g2]; rfl, by rw [flatR_snoc, g3]⟩
          rw [List.length_append, List.length_replicate]
          omega
        rw [List.eq_of_mem_replicate hx]
        exact hbb
      wtm_at "x"
      refine x_andJ (a := decide ((i : Int) = 0)) (b := long && decide (nn / 48 % 3 = 0)) (fun B' k => ?_) (fun _ B' k => ?_) (fun h1 h2 => ?_) (fun h12 => ?_)
      · wtm_at "x"
        exact k
      · refine x_andJ (a := long) (b := decide (nn / 48 % 3 = 0)) (fun B'' k2 => ?_) (fun _ B'' k2 => ?_) (fun g1 g2 => ?_) (fun g12 => ?_)
        · wtm_at "x"
          exact k2
        · wtm_at "x"
          exact k2
        · rw [g1, g2] at k
          exact k
        · rw [g12] at k
          exact k
      · refine iteT ?_
        have hi0 : i = 0 := by
          have := of_decide_eq_true h1
          omega
        wtm_at "x"
        intro p5 hp5
        wtm_at "x"
        refine x_ixI [254, 255, 256, 100] upd_same (by omega) (by show _ < (4 : Int); omega) fun m hm2 => ?_
        have hmm : 0 ≤ m ∧ m ≤ 256 := by
          simp only [List.mem_cons, List.not_mem_nil, or_false] at hm2
          omega
        wtm_at "x"
        intro p3 hp3
        wtm_at "x"
        refine fin m _ hmm.1 hmm.2 (fun z => absurd hi0 z) (fun z => by rw [z] at h2; cases h2) (e2.new hp5) (upd_get (ne_of_none hf2 hp5) hf2) p3 hp3 _ fun r H4 a1 a2 a3 a4 a5 a6 => ?_
        wtm_at "x"
        exact ⟨_, r, _, _, _, _, rfl, a1, a2, a3, a4, a5, a6⟩
      · refine iteF ?_
        wtm_at "x"
        intro p3 hp3
        wtm_at "x"
        refine fin m _ (by omega) (by omega) (fun _ => hmm.2) (fun _ => hmm.2) e2 hf2 p3 hp3 _ fun r H4 a1 a2 a3 a4 a5 a6 => ?_
        wtm_at "x"
        exact ⟨_, r, _, _, _, _, rfl, a1, a2, a3, a4, a5, a6⟩
    · rintro σ H' ⟨row, f, v5, v6, v7, v8, rfl, hf, hfn, e, hby, hlen, hsm⟩
      wtm_at "x"
      exact q row H' f hby ⟨by omega, fun z => (by
        obtain ⟨g1, pcs, g2, g3⟩ := hsm z
        exact ⟨by omega, pcs, by omega, g3⟩)⟩ e hfn hf
end
end Flow

namespace Flow
open PySem PySem.Spec PyProof.Rows L2
theorem all_true (n : Nat) : ((List.range n).map fun (_ : Nat) => V.bl true) = (List.replicate n true).map V.bl := by
  rw [List.map_replicate]
  refine List.ext_getElem? fun i => ?_
  rw [List.getElem?_map]
  by_cases h : i < n
  · rw [List.getElem?_range h, List.getElem?_replicate, if_pos h]
    rfl
  · rw [List.getElem?_eq_none (by rw [List.length_range]; omega), List.getElem?_replicate, if_neg h]
    rfl
theorem rep_all (n : Nat) : (List.replicate n true).all id = true := by
  rw [List.all_eq_true]
  intro x hx
  rw [List.eq_of_mem_replicate hx]
  rfl
theorem raw_inj1 {a b : Lay} (h : rawOf a = rawOf b) : a = b := by
  have h1 : lkind a = lkind b := congrArg Prod.fst h
  have h2 : largs a = largs b := congrArg Prod.snd h
  cases a <;> cases b <;> simp only [lkind, largs] at h1 h2 <;> first
    | rfl
    | (subst h2; rfl)
    | (cases h2; rfl)
    | exact absurd h1 (by decide +kernel)
theorem raw_inj : ∀ {a b : List Lay}, a.map rawOf = b.map rawOf → a = b
  | [], [], _ => rfl
  | [], _ :: _, h => by simp at h
  | _ :: _, [], h => by simp at h
  | x :: a, y :: b, h => by
    rw [List.map_cons, List.map_cons] at h
    injection h with h1 h2
    rw [raw_inj1 h1, raw_inj h2]
theorem kind_at (ly : Lay) : atI (layV ly) 0 = some (.str (lkind ly)) := ix_kind _ _
section
variable {K : PySem.W.Frag}
def spLaw (K : PySem.W.Frag) : Sp := fun vs H Q _ => ∃ (a : Addr) (ns : List Int), vs = [.ref a] ∧ SqL K H a (ns.map V.int) ∧ ∀ H', Q (.bl true) H'
theorem lay_dp {H : Hp} {a : Addr} (ly : Lay) (h : H a = some (.tup (layV ly))) : SqT K H a (.str (layD.lk ly) :: iV (layD.la ly)) := by
  cases ly <;> exact SqT.of h
theorem Made.dp {H0 H : Hp} {a : Addr} {ts : List Addr} {lays : List Lay} (m : Made K H0 H ts lays) (h : SqL K H a (ts.map V.ref)) : Dp K H (.ref a) (laysD lays) :=
  .lst h (dp_lays m.len fun i t ly h1 h2 => lay_dp ly (m.at_ i t ly h1 h2))
end
section
variable {P : Program} {w : World} {K : PySem.W.Frag} {mg : Str → Option Value} {base : Heap}
theorem ok_law_is_row (T : Tx K mg) : DefOk P w K mg base 2 (He.ga K "_law_is_row") ["_law_found"] (spIsRow K) := by
  have D_law_whole := ok_law_whole (P := P) (w := w) (base := base) T
  refine def_ok (N := n_law_is_row) (fn_law_is_row T) sc_law_is_row (fun _ _ _ _ _ _ us hl => match us, hl with | [_], _ => rfl) (fun vs H Q E h => ?_) (fun cdv A outer s H vs Q E hr h => ?_)
  · obtain ⟨a, row, rfl, _⟩ := h
    rfl
  · obtain ⟨a, row, rfl, ha, hby, hlen, q⟩ := h
    refine ⟨_, [_, _], (pss_one (ps_ret (pe_and (pe_callB call_isi rfl (f_isinstance T) (by decide +kernel) (pa_cons (pv 0) (pa_cons (pe_bltn (v := .ty "list") rfl (f_list T) (by decide +kernel) rfl) pa_nil))) (pe_one (pe_callB (cr_all rfl) rfl (f_all T) (by decide +kernel) (pa_cons (pe_lc (own := [("_law_byte", 1)]) (g := gName 1) (tt := tYes) rfl sc_law_is_row.nd (pi_list (pv 0)) (blkOk_by (own := [("_law_byte", 1)]) (N := n_law_is_row) (sc := defScope s_law_is_row) (by decide +kernel)) (fun _ _ _ _ _ => pg_name (i := 1) sc_law_is_row.nd rfl (Or.inl rfl)) (fun _ _ _ _ _ => pts_nil) (fun _ _ _ _ _ => (pe_and (pe_fn D_law_whole (g_law_whole T) (hr.mono (by first | decide | omega)) (fun _ => passE) (pa_cons (pv 1) pa_nil)) (pe_one (pe_chain op_le op_lt pe_int (pv 1) pe_int))))) pa_nil)))))), rfl, ?_⟩
    try dsimp only [cxOf]
    wtm_at "x"
    refine x_isiL (b := true) ha (by decide +kernel) ?_
    wtm_at "x"
    refine x_rLcL (fun _ => V.bl true) (SqL.of ha) (by rw [iV_length, sizeLine_eq]; exact hlen) (fun _ => rfl) (fun i x H1 hi e Q' kq => ?_) fun l H1 hl e h1 => ?_
    · obtain ⟨z, hz, rfl⟩ := iV_get hi
      obtain ⟨z0, z1⟩ := hby z (List.mem_of_getElem? hz)
      wtm_at "x"
      refine ⟨z, rfl, ?_⟩
      wtm_at "x"
      refine ite_d (fun _ => ?_) fun hn => absurd z0 hn
      wtm_at "x"
      rw [decide_eq_true z1]
      exact kq _ Only'.refl
    · rw [all_true] at h1
      wtm_at "x"
      refine x_all _ (SqL.of h1) ?_
      rw [rep_all]
      wtm_at "x"
      exact q _ e
end
end Flow

namespace Flow
open PySem PySem.Spec PyProof.Rows L2
local macro_rules | `(tactic| wtm_at "x1") => `(tactic| first
  | (with_reducible refine Flow.x_lenSet ?_)
  | (with_reducible refine Flow.x_dget2 ?_))
/-! ### the law's own bits, groups, signs, checks -/
def spBits (K : PySem.W.Frag) : Sp := fun vs H Q _ => ∃ (a : Addr) (row : Row) (n : Nat), vs = [.ref a, .int (n : Int)] ∧ SqL K H a (iV row) ∧ n ≤ 8 ∧ n * row.length ≤ 16777216 ∧ ∀ H' r, Ext H H' → H r = none → H' r = some (.lst (iV (bitsOf n row))) → Q (.ref r) H'
def spGroups (K : PySem.W.Frag) : Sp := fun vs H Q _ => ∃ (a : Addr) (row : Row) (n : Nat), vs = [.ref a, .int (n : Int)] ∧ SqL K H a (iV row) ∧ 1 ≤ n ∧ n ≤ 8 ∧ row.length ≤ 16777216 ∧ ∀ H' r, Ext H H' → H r = none → H' r = some (.lst (iV (groupsOf n row))) → Q (.ref r) H'
def spSigns (K : PySem.W.Frag) : Sp := fun vs H Q _ => vs = [] ∧ ∀ H' r, Ext H H' → H r = none → H' r = some (.lst (iV signsT)) → Q (.ref r) H'
theorem pw_all : ∀ x, x ∈ powersT → 0 < x ∧ x ≤ 128 := by decide +kernel
theorem pw_pos {m : Int} (h0 : 0 ≤ m) (h : m < 8) : 0 < gI powersT m := (pw_all _ (gI_mem h0 h)).1
theorem pw_le {m : Int} (h0 : 0 ≤ m) (h : m < 8) : gI powersT m ≤ 128 := (pw_all _ (gI_mem h0 h)).2
def scan : Int → Row → Row
  | c, [] => [c]
  | c, b :: r => c :: scan (nextCheck c b) r
def chk (r : Row) : Row := scan 0 r
theorem scan_snoc : ∀ (c : Int) (r : Row) (b : Int), scan c (r ++ [b]) = scan c r ++ [nextCheck (checkAll c r) b]
  | _, [], _ => rfl
  | c, x :: r, b => congrArg (List.cons c) (scan_snoc (nextCheck c x) r b)
theorem scan_last : ∀ (c : Int) (r : Row), ∃ ys, scan c r = ys ++ [checkAll c r]
  | c, [] => ⟨[], rfl⟩
  | c, x :: r => by
    obtain ⟨ys, e⟩ := scan_last (nextCheck c x) r
    exact ⟨c :: ys, congrArg (List.cons c) e⟩
theorem scan_len : ∀ (c : Int) (r : Row), (scan c r).length = r.length + 1
  | _, [] => rfl
  | c, x :: r => congrArg Nat.succ (scan_len (nextCheck c x) r)
theorem scan_get : ∀ (c : Int) (r : Row) (i : Nat), i ≤ r.length → (scan c r)[i]? = some (checkAll c (r.take i))
  | c, [], 0, _ => rfl
  | c, x :: r, 0, _ => rfl
  | c, [], i + 1, h => absurd h (by simp)
  | c, x :: r, i + 1, h => scan_get (nextCheck c x) r i (by simpa using h)
theorem at_last {xs ys : Row} {z : Int} (h : xs = ys ++ [z]) : atI (iV xs) (-1) = some (V.int z) := by
  subst h
  rw [iV_snoc]
  have e : ixN (iV ys ++ [V.int z]).length (-1) = some ys.length := by
    rw [List.length_append, iV_length]
    unfold ixN
    rw [if_neg (by decide)]
    show (if _ then some _ else none) = _
    rw [if_pos (by simp; omega)]
    congr 1
    simp
    omega
  unfold atI
  rw [e]
  show (iV ys ++ [V.int z])[ys.length]? = _
  rw [List.getElem?_append_right (by rw [iV_length]; omega), iV_length, Nat.sub_self]
  rfl
theorem map_gI {α : Type} (f : Int → α) (r : Row) : ((List.range r.length).map fun i : Nat => f (gI r (i : Int))) = r.map f := by
  refine List.ext_getElem? fun i => ?_
  rw [List.getElem?_map, List.getElem?_map]
  by_cases h : i < r.length
  · rw [List.getElem?_range h, List.getElem?_eq_getElem h]
    show some (f (gI r (i : Int))) = _
    rw [gI_nat (List.getElem?_eq_getElem h)]
    rfl
  · rw [List.getElem?_eq_none (by rw [List.length_range]; omega), List.getElem?_eq_none (by omega)]
    rfl
theorem ints_iV {n : Nat} {f : Nat → Int} : ((List.range n).map fun j : Nat => V.int (f j)) = iV ((List.range n).map f) := by
  unfold iV
  rw [List.map_map]
  rfl
def spChecks (K : PySem.W.Frag) : Sp := fun vs H Q _ => ∃ (a : Addr) (row : Row), vs = [.ref a] ∧ SqL K H a (iV row) ∧ row.length ≤ 16000000 ∧ ∀ H' r ts, Ext H H' → H r = none → H' r = some (.lst (ts.map V.ref)) → RowsIn H' ts ((chk row).map checkBytes) → (∀ t, t ∈ ts → H t = none) → Q (.ref r) H'
section
variable {P : Program} {w : World} {K : PySem.W.Frag} {mg : Str → Option Value} {base : Heap}
theorem ok_law_bits (T : Tx K mg) : DefOk P w K mg base 1 (He.ga K "_law_bits") ["_law_row_here", "_law_size"] (spBits K) := by
  refine def_ok (N := n_law_bits) (fn_law_bits T) sc_law_bits (fun _ _ _ _ _ _ us hl => match us, hl with | [_, _], _ => rfl) (fun vs H Q E h => ?_) (fun cdv A outer s H vs Q E hr h => ?_)
  · obtain ⟨a, row, n, rfl, _⟩ := h
    rfl
  · obtain ⟨a, row, n, rfl, hs, h8, hz, q⟩ := h
    refine ⟨_, [_, _, _, _, _], (pss_cons (ps_set (i := 2) sc_law_bits.nd rfl (Or.inl rfl) (pe_lst pa_nil))
      (pss_cons (ps_for (passes_of rfl) rfl (pi_list (pv 0)) (pg_name (i := 3) sc_law_bits.nd rfl (Or.inr rfl)) (pss_one (ps_expr (pe_bm PySem.F.plainAttrs_list PySem.F.slot_list_extend PySem.F.type_list_extend mt_extend (pv 2) (pa_cons (pe_lc (own := [("_law_k", 4)]) (g := gName 4) (tt := tYes) rfl sc_law_bits.nd (pi_range1 rfl (f_range T) (pa_cons (pv 1) pa_nil)) (blkOk_by (own := [("_law_k", 4)]) (N := n_law_bits) (sc := defScope s_law_bits) (by decide +kernel)) (fun _ _ _ _ _ => pg_name (i := 4) sc_law_bits.nd rfl (Or.inl rfl)) (fun _ _ _ _ _ => pts_nil) (fun _ _ _ _ _ => (pe_op op_mod (pe_op op_fdivN (pv 3) (pe_ix (ix_listK K rfl) (pe_lst (pa_cons pe_int (pa_cons pe_int (pa_cons pe_int (pa_cons pe_int (pa_cons pe_int (pa_cons pe_int (pa_cons pe_int (pa_cons pe_int pa_nil))))))))) (pe_op op_sub (pe_op op_sub (pv 1) pe_int) (pv 4)) (fun _ _ => rfl))) pe_int))) pa_nil)))))
      (pss_one (ps_ret (pv 2))))), rfl, ?_⟩
    try dsimp only [cxOf]
    wtm_at "x"
    intro f hf
    wtm_at "x"
    refine x_rForL (SqL.ext (Only'.put0 Only'.refl hf) hs) (fun i σ H' => ∃ v3 v4, σ = [some (.ref a), some (.int (n : Int)), some (.ref f), v3, v4] ∧ H' f = some (.lst (iV (bitsOf n (row.take i)))) ∧ Ext H H') ⟨_, _, rfl, upd_same, Only'.put0 Only'.refl hf⟩ (fun i σ H' _ p => ?_) ?_ ?_
    · obtain ⟨v3, v4, _, _, e⟩ := p
      exact SqL.ext e hs
    · rintro i x σ H' hi ⟨v3, v4, rfl, h1, e⟩
      obtain ⟨z, hz1, rfl⟩ := iV_get hi
      wtm_at "x"
      refine x_rLcR (k := n) (fun j => V.int (z / gI powersT ((n : Int) - 1 - (j : Int)) % 2)) rfl (by omega) (fun _ => rfl) (fun j H1 hj e1 Q' k => ?_) fun l H1 hl e1 h2 => ?_
      · wtm_at "x"
        intro p hp
        wtm_at "x"
        have hpos := pw_pos (m := (n : Int) - 1 - (j : Int)) (by omega) (by omega)
        refine x_ixL (SqL.of (show _ = some (.lst (iV powersT)) from upd_same)) (gI_at (by omega) (by show _ < (8 : Int); omega)) ?_
        refine x_rI ⟨by omega, by have := pw_le (m := (n : Int) - 1 - (j : Int)) (by omega) (by omega); omega⟩ ?_
        wtm_at "x"
        rw [fdiv_pos (by omega)]
        exact k _ (Only'.put0 Only'.refl hp)
      · have eb : (List.range n).map (fun j : Nat => V.int (z / gI powersT ((n : Int) - 1 - (j : Int)) % 2)) = iV (bits1 n z) := by
          unfold iV bits1
          rw [List.map_map]
          rfl
        rw [eb] at h2
        have hil : i < row.length := (List.getElem?_eq_some_iff.mp hz1).1
        have hb : bitsOf n (row.take (i + 1)) = bitsOf n (row.take i) ++ bits1 n z := by
          rw [take_more hz1, bitsOf_app, bitsOf_cons]
          show _ ++ (_ ++ []) = _
          rw [List.append_nil]
        have hm : n * (i + 1) ≤ n * row.length := Nat.mul_le_mul_left n hil
        have hlen : (bitsOf n (row.take (i + 1))).length ≤ 16777216 := by
          rw [bitsOf_len, List.length_take, Nat.min_eq_left hil]
          show n * (i + 1) ≤ _
          omega
        rw [hb, List.length_append] at hlen
        wtm_at "x"
        refine x_extend (e1 f _ h1 (by simp)) h2 (by rw [iV_length, iV_length, sizeLine_eq]; exact hlen) ?_
        wtm_at "x"
        refine ⟨_, _, rfl, ?_, (e.trans e1).put0 hf⟩
        rw [hb, iV_append, upd_same]
    · rintro σ H' ⟨v3, v4, rfl, h1, e⟩
      rw [iV_length, List.take_length] at h1
      wtm_at "x"
      exact q H' f e hf h1
theorem ok_law_groups (T : Tx K mg) : DefOk P w K mg base 1 (He.ga K "_law_groups") ["_law_bits_here", "_law_size"] (spGroups K) := by
  refine def_ok (N := n_law_groups) (fn_law_groups T) sc_law_groups (fun _ _ _ _ _ _ us hl => match us, hl with | [_, _], _ => rfl) (fun vs H Q E h => ?_) (fun cdv A outer s H vs Q E hr h => ?_)
  · obtain ⟨a, row, n, rfl, _⟩ := h
    rfl
  · obtain ⟨a, row, n, rfl, hs, h1, h8, hz, q⟩ := h
    refine ⟨_, [_, _, _, _, _, _], (pss_cons (ps_set (i := 2) sc_law_groups.nd rfl (Or.inl rfl) (pe_lst pa_nil))
      (pss_cons (ps_for (passes_of rfl) rfl (pi_range1 rfl (f_range T) (pa_cons (pe_op op_fdivN (pe_callB call_lenS rfl (f_len T) (by decide +kernel) (pa_cons (pv 0) pa_nil)) (pv 1)) pa_nil)) (pg_name (i := 3) sc_law_groups.nd rfl (Or.inl rfl)) (pss_cons (ps_set (i := 4) sc_law_groups.nd rfl (Or.inr rfl) (pe_slice sl_list (pv 0) (po_some (pe_op op_mul (pv 1) (pv 3))) (po_some (pe_op op_add (pe_op op_mul (pv 1) (pv 3)) (pv 1)))))
      (pss_one (ps_expr (pe_bm PySem.F.plainAttrs_list PySem.F.slot_list_append PySem.F.type_list_append mt_append (pv 2) (pa_cons (pe_callB (cr_sum rfl) rfl (f_sum T) (by decide +kernel) (pa_cons (pe_lc (own := [("_law_j", 5)]) (g := gName 5) (tt := tYes) rfl sc_law_groups.nd (pi_range1 rfl (f_range T) (pa_cons (pv 1) pa_nil)) (blkOk_by (own := [("_law_j", 5)]) (N := n_law_groups) (sc := defScope s_law_groups) (by decide +kernel)) (fun _ _ _ _ _ => pg_name (i := 5) sc_law_groups.nd rfl (Or.inl rfl)) (fun _ _ _ _ _ => pts_nil) (fun _ _ _ _ _ => (pe_op op_mul (pe_ix (ix_listK K rfl) (pv 4) (pv 5) (fun _ _ => rfl)) (pe_ix (ix_listK K rfl) (pe_lst (pa_cons pe_int (pa_cons pe_int (pa_cons pe_int (pa_cons pe_int (pa_cons pe_int (pa_cons pe_int (pa_cons pe_int (pa_cons pe_int pa_nil))))))))) (pe_op op_sub (pe_op op_sub (pv 1) pe_int) (pv 5)) (fun _ _ => rfl))))) pa_nil)) pa_nil))))))
      (pss_one (ps_ret (pv 2))))), rfl, ?_⟩
    try dsimp only [cxOf]
    wtm_at "x"
    intro f hf
    wtm_at "x"
    refine x_len (Or.inl (SqL.ext (Only'.put0 Only'.refl hf) hs)) ?_
    wtm_at "x"
    refine x_rForR1 (k := row.length / n) (by rw [iV_length, fdiv_pos (by omega)]; rfl) (by have := Nat.div_le_self row.length n; omega) (fun i σ H' => ∃ v3 v4 v5, σ = [some (.ref a), some (.int (n : Int)), some (.ref f), v3, v4, v5] ∧
        H' f = some (.lst (iV ((List.range i).map fun k : Nat => grpOf n ((row.drop (n * k)).take n)))) ∧ Ext H H') ⟨_, _, _, rfl, upd_same, Only'.put0 Only'.refl hf⟩ ?_ ?_
    · rintro i σ H' hi ⟨v3, v4, v5, rfl, hf1, e⟩
      have hd := Nat.div_mul_le_self row.length n
      have hi2 : (i + 1) * n ≤ row.length / n * n := Nat.mul_le_mul_right n hi
      have hi3 : n * i + n ≤ row.length := by
        rw [Nat.add_mul, Nat.one_mul, Nat.mul_comm] at hi2
        omega
      wtm_at "x"
      refine x_slL (SqL.ext e hs) fun l hl => ?_
      have hcut : cutV (iV row) (some ((n : Int) * (i : Int))) (some ((n : Int) * (i : Int) + (n : Int))) = iV ((row.drop (n * i)).take n) := by
        have e1 : n * i + n - n * i = n := by omega
        rw [cut_both (i := n * i) (k := n * i + n) (by omega) (by omega), e1]
        unfold iV
        rw [← List.map_drop, ← List.map_take]
      rw [hcut]
      have hg : ((row.drop (n * i)).take n).length = n := by
        rw [List.length_take, List.length_drop]
        omega
      generalize hgg : (row.drop (n * i)).take n = g at *
      have hf2 : (upd H' l (.lst (iV g))) f = some (.lst (iV ((List.range i).map fun k : Nat => grpOf n ((row.drop (n * k)).take n)))) := upd_get (ne_of_none hf1 hl) hf1
      have e2 : Ext H (upd H' l (.lst (iV g))) := e.new hl
      have hl2 : (upd H' l (.lst (iV g))) l = some (.lst (iV g)) := upd_same
      generalize upd H' l (.lst (iV g)) = H2 at *
      wtm_at "x"
      refine x_rLcR (k := n) (fun j => V.int (gI g (j : Int) * gI powersT ((n : Int) - 1 - (j : Int)))) rfl (by omega) (fun _ => rfl) (fun j H3 hj e3 Q' k => ?_) fun l3 H3 hl3 e3 h3 => ?_
      · wtm_at "x"
        refine x_ixL (SqL.ext e3 (SqL.of hl2)) (gI_at (by omega) (by omega)) ?_
        wtm_at "x"
        intro p hp
        wtm_at "x"
        have hpos := pw_pos (m := (n : Int) - 1 - (j : Int)) (by omega) (by omega)
        have hle := pw_le (m := (n : Int) - 1 - (j : Int)) (by omega) (by omega)
        refine x_ixL (SqL.of (show _ = some (.lst (iV powersT)) from upd_same)) (gI_at (by omega) (by show _ < (8 : Int); omega)) ?_
        refine x_rI (Or.inr ⟨by omega, by omega⟩) ?_
        wtm_at "x"
        exact k _ (Only'.put0 Only'.refl hp)
      · rw [ints_iV] at h3
        wtm_at "x"
        refine x_sum (SqL.of h3) ?_
        wtm_at "x"
        refine x_append (e3 f _ hf2 (by simp)) (by rw [iV_length, List.length_map, List.length_range, sizeLine_eq]; have := Nat.div_le_self row.length n; omega) ?_
        wtm_at "x"
        refine ⟨_, _, _, rfl, ?_, (e2.trans e3).put0 hf⟩
        rw [upd_same, List.range_succ, List.map_append, iV_append, List.map_cons, List.map_nil, hgg]
        rfl
    · rintro σ H' ⟨v3, v4, v5, rfl, hf1, e⟩
      wtm_at "x"
      exact q H' f e hf hf1
theorem ok_law_signs (T : Tx K mg) : DefOk P w K mg base 1 (He.ga K "_law_signs") [] (spSigns K) := by
  refine def_ok (N := n_law_signs) (fn_law_signs T) sc_law_signs (fun _ _ _ _ _ _ us hl => match us, hl with | [], _ => rfl) (fun vs H Q E h => ?_) (fun cdv A outer s H vs Q E hr h => ?_)
  · obtain ⟨rfl, _⟩ := h
    rfl
  · obtain ⟨rfl, q⟩ := h
    refine ⟨_, [], (pss_one (ps_ret (pe_op op_cat (pe_op op_cat (pe_op op_cat (pe_op op_cat (pe_lst (pa_cons pe_int pa_nil)) (pe_listRg rfl rfl (f_list T) (prg_2 rfl (f_range T) pe_int pe_int))) (pe_listRg rfl rfl (f_list T) (prg_2 rfl (f_range T) pe_int pe_int))) (pe_lst (pa_cons pe_int pa_nil))) (pe_listRg rfl rfl (f_list T) (prg_2 rfl (f_range T) pe_int pe_int))))), rfl, ?_⟩
    try dsimp only [cxOf]
    wtm_at "x"
    intro p hp
    refine x_lstRg2 ?_
    wtm_at "x"
    refine ⟨48, 58, rfl, rfl, RgOk.of_le (by decide) (by decide) (by decide) (by decide), fun p2 hp2 => ?_⟩
    refine x_cat (upd_get (ne_of_none upd_same hp2) upd_same) upd_same (by decide +kernel) fun p3 hp3 => ?_
    refine x_lstRg2 ?_
    wtm_at "x"
    refine ⟨65, 91, rfl, rfl, RgOk.of_le (by decide) (by decide) (by decide) (by decide), fun p4 hp4 => ?_⟩
    refine x_cat (upd_get (ne_of_none upd_same hp4) upd_same) upd_same (by decide +kernel) fun p5 hp5 => ?_
    wtm_at "x"
    intro p6 hp6
    refine x_cat (upd_get (ne_of_none upd_same hp6) upd_same) upd_same (by decide +kernel) fun p7 hp7 => ?_
    refine x_lstRg2 ?_
    wtm_at "x"
    refine ⟨97, 123, rfl, rfl, RgOk.of_le (by decide) (by decide) (by decide) (by decide), fun p8 hp8 => ?_⟩
    refine x_cat (upd_get (ne_of_none upd_same hp8) upd_same) upd_same (by decide +kernel) fun p9 hp9 => ?_
    refine q _ p9 (((((((((Only'.put0 Only'.refl hp).new hp2).new hp3).new hp4).new hp5).new hp6).new hp7).new hp8).new hp9) ?_ ?_
    · exact (upd_none (upd_none (upd_none (upd_none (upd_none (upd_none (upd_none (upd_none hp9).2).2).2).2).2).2).2).2
    · exact upd_same
theorem ok_law_checks (T : Tx K mg) : DefOk P w K mg base 1 (He.ga K "_law_checks") ["_law_row_here"] (spChecks K) := by
  refine def_ok (N := n_law_checks) (fn_law_checks T) sc_law_checks (fun _ _ _ _ _ _ us hl => match us, hl with | [_], _ => rfl) (fun vs H Q E h => ?_) (fun cdv A outer s H vs Q E hr h => ?_)
  · obtain ⟨a, row, rfl, _⟩ := h
    rfl
  · obtain ⟨a, row, rfl, hs, hz, q⟩ := h
    refine ⟨_, [_, _, _, _], (pss_cons (ps_set (i := 1) sc_law_checks.nd rfl (Or.inl rfl) (pe_lst (pa_cons pe_int pa_nil)))
      (pss_cons (ps_for (passes_of rfl) rfl (pi_list (pv 0)) (pg_name (i := 2) sc_law_checks.nd rfl (Or.inl rfl)) (pss_one (ps_expr (pe_bm PySem.F.plainAttrs_list PySem.F.slot_list_append PySem.F.type_list_append mt_append (pv 1) (pa_cons (pe_op op_mod (pe_op op_add (pe_op op_add (pe_op op_mul (pe_ix ix_list (pv 1) (pe_un un_neg pe_int) (fun _ _ => rfl)) pe_int) (pv 2)) pe_int) pe_int) pa_nil)))))
      (pss_one (ps_ret (pe_lc (own := [("_law_check", 3)]) (g := gName 3) (tt := tYes) rfl sc_law_checks.nd (pi_list (pv 1)) (blkOk_by (own := [("_law_check", 3)]) (N := n_law_checks) (sc := defScope s_law_checks) (by decide +kernel)) (fun _ _ _ _ _ => pg_name (i := 3) sc_law_checks.nd rfl (Or.inl rfl)) (fun _ _ _ _ _ => pts_nil) (fun _ _ _ _ _ => (pe_lst (pa_cons (pe_op op_fdiv (pv 3) pe_int) (pa_cons (pe_op op_mod (pv 3) pe_int) pa_nil))))))))), rfl, ?_⟩
    try dsimp only [cxOf]
    wtm_at "x"
    intro f hf
    wtm_at "x"
    refine x_rForL (SqL.ext (Only'.put0 Only'.refl hf) hs) (fun i σ H' => ∃ v2 v3, σ = [some (.ref a), some (.ref f), v2, v3] ∧ H' f = some (.lst (iV (chk (row.take i)))) ∧ Ext H H') ⟨_, _, rfl, upd_same, Only'.put0 Only'.refl hf⟩ (fun i σ H' _ p => ?_) ?_ ?_
    · obtain ⟨v2, v3, _, _, e⟩ := p
      exact SqL.ext e hs
    · rintro i x σ H' hi ⟨v2, v3, rfl, h1, e⟩
      obtain ⟨z, hz1, rfl⟩ := iV_get hi
      have hil : i < row.length := (List.getElem?_eq_some_iff.mp hz1).1
      obtain ⟨ys, ey⟩ := scan_last 0 (row.take i)
      wtm_at "x"
      refine x_ixL (SqL.of h1) (at_last ey) ?_
      wtm_at "x"
      refine x_append h1 (by unfold chk; rw [iV_length, scan_len, List.length_take, sizeLine_eq]; omega) ?_
      wtm_at "x"
      refine ⟨_, _, rfl, ?_, e.put0 hf⟩
      unfold chk
      rw [upd_same, take_more hz1, scan_snoc, iV_snoc]
      rfl
    · rintro σ H' ⟨v2, v3, rfl, h1, e⟩
      rw [iV_length, List.take_length] at h1
      wtm_at "x"
      refine x_rLcLN (fun t => H t = none) (fun i => checkBytes (gI (chk row) (i : Int))) (SqL.of h1) (by unfold chk; rw [iV_length, scan_len]; omega) (fun _ => rfl) (fun i x H1 Dl hi e1 hD hne Q' k => ?_) fun p ts H1 hp e1 h2 h3 _ h5 => ?_
      · obtain ⟨z, hz1, rfl⟩ := iV_get hi
        wtm_at "x"
        intro t ht
        refine k t _ (Only'.put0 Only'.refl ht) ?_ (hne t ht) ((e.trans e1).free ht)
        rw [upd_same, gI_nat hz1]
        rfl
      · refine q H1 p ts (e.trans e1) (e.free hp) h2 ?_ h5
        have e2 : ((List.range (iV (chk row)).length).map fun i : Nat => checkBytes (gI (chk row) (i : Int))) = (chk row).map checkBytes := by
          rw [iV_length]
          exact map_gI checkBytes (chk row)
        rw [e2] at h3
        exact h3
end
end Flow

namespace Flow
open PySem PySem.Spec PyProof.Rows L2
local macro_rules | `(tactic| wtm_at "x1") => `(tactic| first
  | (with_reducible refine Flow.x_lenSet ?_)
  | (with_reducible refine Flow.x_dget2 ?_))
/-! ### the law's own writing: runs, front, pieces -/
/-- rows that are told -/
def ToldR (K : PySem.W.Frag) (H : Hp) (rows : List Row) (Q : VK) : Prop := ∀ H' r ts, Ext H H' → H r = none → H' r = some (.lst (ts.map V.ref)) → RowsIn H' ts rows → (∀ t, t ∈ ts → H t = none) → Q (.ref r) H'
def spWrite (s0 : WSt) (K : PySem.W.Frag) : Sp := fun vs H Q _ => ∃ (a : Addr) (row : Row), vs = [.ref a] ∧ SqL K H a (iV row) ∧ Bys row ∧ row.length ≤ 4000 ∧ ToldR K H (outs s0 row) Q
def chunkOr (c : Bool) : Str := if c then "chunks" else "checks"
def layOr (c : Bool) (n : Nat) : Lay := if c then .chunks (n : Int) else .checks (n : Int)
def spPieces (K : PySem.W.Frag) : Sp := fun vs H Q _ => ∃ (a : Addr) (row : Row) (c : Bool) (n : Nat), vs = [.str (chunkOr c), .int (n : Int), .ref a] ∧ SqL K H a (iV row) ∧ Bys row ∧ row.length ≤ 4000 ∧ 1 ≤ n ∧ n ≤ 255 ∧ ToldR K H (outs (newW (layOr c n)) row) Q
/-- what stands behind i turns -/
structure Acc (H0 : Hp) (f : Addr) (g : Nat → Row) (i : Nat) (H : Hp) (ts : List Addr) : Prop where
  here : H f = some (.lst (ts.map V.ref))
  rows : RowsIn H ts ((List.range i).map g)
  ne : ∀ t, t ∈ ts → t ≠ f
  new : ∀ t, t ∈ ts → H0 t = none
  ext : Ext H0 H
theorem Acc.to {H0 H H' : Hp} {f : Addr} {g : Nat → Row} {i : Nat} {ts : List Addr} (c : Acc H0 f g i H ts) (e : Ext H H') : Acc H0 f g i H' ts := ⟨e f _ c.here (by simp), c.rows.ext e, c.ne, c.new, c.ext.trans e⟩
theorem Acc.next {H0 H : Hp} {f t : Addr} {g : Nat → Row} {i : Nat} {ts : List Addr} (c : Acc H0 f g i H ts) (hf : H0 f = none) (h : H t = some (.lst (iV (g i)))) (hn : t ≠ f) (h0 : H0 t = none) : Acc H0 f g (i + 1) (upd H f (.lst (ts.map V.ref ++ [V.ref t]))) (ts ++ [t]) := by
  refine ⟨?_, ?_, ne_snoc c.ne hn, all_snoc c.new h0, c.ext.put0 hf⟩
  · rw [upd_same, List.map_append]
    rfl
  · rw [List.range_succ, List.map_append]
    exact (c.rows.snoc h).put (ne_snoc c.ne hn)
theorem Acc.few {H0 H : Hp} {f : Addr} {g : Nat → Row} {i : Nat} {ts : List Addr} (c : Acc H0 f g i H ts) : ts.length = i := by rw [c.rows.len, List.length_map, List.length_range]
theorem Acc.start {H0 H : Hp} {f : Addr} {g : Nat → Row} (h : H f = some (.lst [])) (e : Ext H0 H) : Acc H0 f g 0 H [] := ⟨h, RowsIn.nil, (fun _ h => nomatch h), (fun _ h => nomatch h), e⟩
section
variable {P : Program} {w : World} {K : PySem.W.Frag} {mg : Str → Option Value} {base : Heap}
theorem ok_law_write_runs (T : Tx K mg) : DefOk P w K mg base 1 (He.ga K "_law_write_runs") ["_law_row_here"] (spWrite (.runs 0 0) K) := by
  refine def_ok (N := n_law_write_runs) (fn_law_write_runs T) sc_law_write_runs (fun _ _ _ _ _ _ us hl => match us, hl with | [_], _ => rfl) (fun vs H Q E h => ?_) (fun cdv A outer s H vs Q E hr h => ?_)
  · obtain ⟨a, row, rfl, _⟩ := h
    rfl
  · obtain ⟨a, row, rfl, hs, hby, hz, q⟩ := h
    refine ⟨_, [_, _, _, _, _], (pss_cons (ps_set (i := 1) sc_law_write_runs.nd rfl (Or.inl rfl) (pe_lst pa_nil))
      (pss_cons (ps_set (i := 2) sc_law_write_runs.nd rfl (Or.inl rfl) pe_int)
      (pss_cons (ps_for (passes_of rfl) rfl (pi_range1 rfl (f_range T) (pa_cons (pe_callB call_lenS rfl (f_len T) (by decide +kernel) (pa_cons (pv 0) pa_nil)) pa_nil)) (pg_name (i := 3) sc_law_write_runs.nd rfl (Or.inl rfl)) (pss_cons (ps_set (i := 4) sc_law_write_runs.nd rfl (Or.inl rfl) (pe_lst pa_nil))
      (pss_cons (ps_if (PW.pt (pw_and (pt_cmpR op_gt (pv 2) pe_int (nomark _)) (pw_and1 (pt_cmpR op_ne (pe_ix ix_list (pv 0) (pv 3) (fun _ _ => rfl)) (pe_ix ix_list (pv 0) (pe_op op_sub (pv 3) pe_int) (fun _ _ => rfl)) (nomark _))))) (pss_cons (ps_set (i := 4) sc_law_write_runs.nd rfl (Or.inl rfl) (pe_lst (pa_cons (pv 2) (pa_cons (pe_ix ix_list (pv 0) (pe_op op_sub (pv 3) pe_int) (fun _ _ => rfl)) pa_nil))))
      (pss_one (ps_set (i := 2) sc_law_write_runs.nd rfl (Or.inl rfl) pe_int))) pss_nil)
      (pss_cons (ps_set (i := 2) sc_law_write_runs.nd rfl (Or.inl rfl) (pe_op op_add (pv 2) pe_int))
      (pss_cons (ps_if (pt_cmpR op_eq (pv 2) pe_int (nomark _)) (pss_cons (ps_set (i := 4) sc_law_write_runs.nd rfl (Or.inl rfl) (pe_op op_cat (pv 4) (pe_lst (pa_cons (pv 2) (pa_cons (pe_ix ix_list (pv 0) (pv 3) (fun _ _ => rfl)) pa_nil)))))
      (pss_one (ps_set (i := 2) sc_law_write_runs.nd rfl (Or.inl rfl) pe_int))) pss_nil)
      (pss_one (ps_expr (pe_bm PySem.F.plainAttrs_list PySem.F.slot_list_append PySem.F.type_list_append mt_append (pv 1) (pa_cons (pv 4) pa_nil)))))))))
      (pss_one (ps_ret (pe_op op_cat (pv 1) (pe_lst (pa_cons (pe_ifExp (pt_cmpR op_gt (pv 2) pe_int (nomark _)) (pe_lst (pa_cons (pv 2) (pa_cons (pe_ix ix_list (pv 0) (pe_un un_neg pe_int) (fun _ _ => rfl)) pa_nil))) (pe_lst pa_nil)) pa_nil)))))))), rfl, ?_⟩
    try dsimp only [cxOf]
    wtm_at "x"
    intro f hf
    wtm_at "x"
    refine x_len (Or.inl (SqL.ext (Only'.put0 Only'.refl hf) hs)) ?_
    rw [iV_length]
    wtm_at "x"
    refine x_rForR1 (k := row.length) rfl (by omega) (fun i σ H' => ∃ (many byte : Int) (ts : List Addr) (v3 v4 : Option V), σ = [some (.ref a), some (.ref f), some (.int many), v3, v4] ∧ Acc H f (outAt (.runs 0 0) row) i H' ts ∧
        stAt (.runs 0 0) row i = .runs many byte) ⟨0, 0, [], _, _, rfl, Acc.start upd_same (Only'.put0 Only'.refl hf), rfl⟩ ?_ ?_
    · rintro i σ H' hi ⟨many, byte, ts, v3, v4, rfl, c, hst⟩
      obtain ⟨many', byte', e', m0, m1, hprev, hz0⟩ := runs_st row i (by omega)
      rw [hst] at e'
      injection e' with ea eb
      subst ea eb
      have hs1 := SqL.ext c.ext hs
      have hlen := c.few
      have hsz : (ts.map V.ref).length < sizeLine := by
        rw [List.length_map, hlen, sizeLine_eq]
        omega
      wtm_at "x"
      intro p n_p
      have e_p : Ext H' (upd H' p (.lst [])) := Only'.put0 Only'.refl n_p
      have h_p : (upd H' p (.lst [])) p = some (.lst []) := upd_same
      generalize (upd H' p (.lst [])) = H1 at *
      have c1 := c.to e_p
      have hpf : p ≠ f := Ne.symm (ne_of_none c.here n_p)
      wtm_at "x"
      refine x_andJ (a := decide (many > 0)) (b := decide (gI row (i : Int) ≠ gI row ((i - 1 : Nat) : Int))) (fun B' k => ?_) (fun h1 B' k => ?_) (fun h1 h2 => ?_) (fun h12 => ?_)
      · wtm_at "x"
        exact k
      · have h1' : many > 0 := of_decide_eq_true h1
        have hi0 : 0 < i := Nat.pos_of_ne_zero fun z => by
          have := hz0 z
          omega
        wtm_at "x"
        refine x_ixL (SqL.ext e_p hs1) (gI_at (by omega) (by omega)) ?_
        wtm_at "x"
        have ei : (i : Int) - 1 = ((i - 1 : Nat) : Int) := by omega
        rw [ei]
        refine x_ixL (SqL.ext e_p hs1) (gI_at (by omega) (by omega)) ?_
        wtm_at "x"
        rw [← decide_not] <;> exact k
      · refine iteT ?_
        have h1' : many > 0 := of_decide_eq_true h1
        have h2' : gI row (i : Int) ≠ gI row ((i - 1 : Nat) : Int) := of_decide_eq_true h2
        have hi0 : 0 < i := Nat.pos_of_ne_zero fun z => by
          have := hz0 z
          omega
        have hbyte := hprev hi0
        have ei : (i : Int) - 1 = ((i - 1 : Nat) : Int) := by omega
        have ho : outAt (.runs 0 0) row i = [many, byte] := by
          unfold outAt
          rw [hst]
          show (takeRuns _ _ _).1 = _
          unfold takeRuns
          rw [if_pos ⟨h1', by rw [hbyte]; exact h2'⟩]
        have hn : stAt (.runs 0 0) row (i + 1) = .runs 1 (gI row (i : Int)) := by
          rw [stAt_succ hi, hst]
          show (takeRuns _ _ _).2 = _
          unfold takeRuns
          rw [if_pos ⟨h1', by rw [hbyte]; exact h2'⟩]
        wtm_at "x"
        rw [ei]
        refine x_ixL (SqL.ext e_p hs1) (gI_at (by omega) (by omega)) ?_
        wtm_at "x"
        intro p2 n_p2
        have e_p2 : Ext H1 (upd H1 p2 (.lst [V.int many, V.int (gI row ((i - 1 : Nat) : Int))])) := Only'.put0 Only'.refl n_p2
        have h_p2 : (upd H1 p2 (.lst [V.int many, V.int (gI row ((i - 1 : Nat) : Int))])) p2 = some (.lst [V.int many, V.int (gI row ((i - 1 : Nat) : Int))]) := upd_same
        generalize (upd H1 p2 (.lst [V.int many, V.int (gI row ((i - 1 : Nat) : Int))])) = H2 at *
        have c2 := c1.to e_p2
        have hpf2 : p2 ≠ f := Ne.symm (ne_of_none c1.here n_p2)
        wtm_at "x"
        refine ite_d (fun z => absurd z (by decide)) fun _ => ?_
        have hh := c2.here
        wtm_at "x"
        exact ⟨_, _, _, _, _, rfl, c2.next hf (by rw [h_p2, ho, hbyte]; rfl) hpf2 (c1.ext.free n_p2), hn⟩
      · refine iteF ?_
        have hc : ¬ (many > 0 ∧ gI row (i : Int) ≠ byte) := fun z => by
          have hi0 : 0 < i := Nat.pos_of_ne_zero fun y => by
            have := hz0 y
            omega
          rw [hprev hi0] at z
          rw [decide_eq_true z.1, decide_eq_true z.2] at h12
          cases h12
        wtm_at "x"
        refine ite_d (fun h255 => ?_) fun h255 => ?_
        · have ho : outAt (.runs 0 0) row i = [255, gI row (i : Int)] := by
            unfold outAt
            rw [hst]
            show (takeRuns _ _ _).1 = _
            unfold takeRuns
            rw [if_neg hc, if_pos h255]
          have hn : stAt (.runs 0 0) row (i + 1) = .runs 0 (gI row (i : Int)) := by
            rw [stAt_succ hi, hst]
            show (takeRuns _ _ _).2 = _
            unfold takeRuns
            rw [if_neg hc, if_pos h255]
          wtm_at "x"
          refine x_ixL (SqL.ext e_p hs1) (gI_at (by omega) (by omega)) ?_
          wtm_at "x"
          intro p2 n_p2
          have e_p2 : Ext H1 (upd H1 p2 (.lst [V.int (many + 1), V.int (gI row (i : Int))])) := Only'.put0 Only'.refl n_p2
          have h_p2 : (upd H1 p2 (.lst [V.int (many + 1), V.int (gI row (i : Int))])) p2 = some (.lst [V.int (many + 1), V.int (gI row (i : Int))]) := upd_same
          generalize (upd H1 p2 (.lst [V.int (many + 1), V.int (gI row (i : Int))])) = H2 at *
          refine x_cat (e_p2 p _ h_p (by simp)) h_p2 (by rw [sizeLine_eq]; simp) ?_
          intro p3 n_p3
          have e_p3 : Ext H2 (upd H2 p3 (.lst ([] ++ [V.int (many + 1), V.int (gI row (i : Int))]))) := Only'.put0 Only'.refl n_p3
          have h_p3 : (upd H2 p3 (.lst ([] ++ [V.int (many + 1), V.int (gI row (i : Int))]))) p3 = some (.lst ([] ++ [V.int (many + 1), V.int (gI row (i : Int))])) := upd_same
          generalize (upd H2 p3 (.lst ([] ++ [V.int (many + 1), V.int (gI row (i : Int))]))) = H3 at *
          have c2 := (c1.to e_p2).to e_p3
          have hpf3 : p3 ≠ f := Ne.symm (ne_of_none (c1.to e_p2).here n_p3)
          have hh := c2.here
          wtm_at "x"
          exact ⟨_, _, _, _, _, rfl, c2.next hf (by rw [h_p3, ho, h255]; rfl) hpf3 ((c1.to e_p2).ext.free n_p3), hn⟩
        · have ho : outAt (.runs 0 0) row i = [] := by
            unfold outAt
            rw [hst]
            show (takeRuns _ _ _).1 = _
            unfold takeRuns
            rw [if_neg hc, if_neg h255]
          have hn : stAt (.runs 0 0) row (i + 1) = .runs (many + 1) (gI row (i : Int)) := by
            rw [stAt_succ hi, hst]
            show (takeRuns _ _ _).2 = _
            unfold takeRuns
            rw [if_neg hc, if_neg h255]
          have hh := c1.here
          wtm_at "x"
          exact ⟨_, _, _, _, _, rfl, c1.next hf (by rw [h_p, ho]; rfl) hpf (c.ext.free n_p), hn⟩
    · rintro σ H' ⟨many, byte, ts, v3, v4, rfl, c, hst⟩
      obtain ⟨many', byte', e', m0, m1, hprev, hz0⟩ := runs_st row row.length (Nat.le_refl _)
      rw [hst] at e'
      injection e' with ea eb
      subst ea eb
      have hs1 := SqL.ext c.ext hs
      have hlen := c.few
      have hsz : (ts.map V.ref).length < sizeLine := by
        rw [List.length_map, hlen, sizeLine_eq]
        omega
      have fin : ∀ (x : Row) (H2 : Hp) (p : Addr), wend (.runs many byte) = x → Ext H' H2 → H2 p = some (.lst (iV x)) → H p = none → ∀ p2, H2 p2 = none → rCat (.ref f) (.ref p2) (upd H2 p2 (.lst [V.ref p])) Q := by
        intro x H2 p hx e2 hp hpn p2 hp2
        refine x_cat (keep (e2 f _ c.here (by simp)) hp2) upd_same (by rw [List.length_map, hlen, sizeLine_eq]; simp; omega) fun r hr => ?_
        have e3 : Ext H' (upd (upd H2 p2 (.lst [V.ref p])) r (.lst (ts.map V.ref ++ [V.ref p]))) := (e2.new hp2).new hr
        refine q _ r (ts ++ [p]) (c.ext.trans e3) (c.ext.free (e2.free (upd_none hr).2)) (by rw [upd_same, List.map_append]; rfl) ?_ (all_snoc c.new hpn)
        rw [outs_at, hst, hx]
        exact (c.rows.ext e3).snoc (keep (keep hp hp2) hr)
      wtm_at "x"
      refine ite_d (fun hm => ?_) fun hm => ?_
      · have hi0 : 0 < row.length := Nat.pos_of_ne_zero fun z => by
          have := hz0 z
          omega
        have hr1 : row = row.take (row.length - 1) ++ [gI row ((row.length - 1 : Nat) : Int)] := by
          rw [← take_snoc (by omega)]
          rw [show row.length - 1 + 1 = row.length from by omega, List.take_length]
        wtm_at "x"
        refine x_ixL hs1 (at_last hr1) ?_
        wtm_at "x"
        intro p n_p
        have e_p : Ext H' (upd H' p (.lst [V.int many, V.int (gI row ((row.length - 1 : Nat) : Int))])) := Only'.put0 Only'.refl n_p
        have h_p : (upd H' p (.lst [V.int many, V.int (gI row ((row.length - 1 : Nat) : Int))])) p = some (.lst [V.int many, V.int (gI row ((row.length - 1 : Nat) : Int))]) := upd_same
        generalize (upd H' p (.lst [V.int many, V.int (gI row ((row.length - 1 : Nat) : Int))])) = H2 at *
        wtm_at "x"
        intro p2 hp2
        refine fin [many, byte] H2 p ?_ e_p (by rw [h_p, hprev hi0]; rfl) (c.ext.free n_p) p2 hp2
        show (if many = 0 then [] else [many, byte]) = _
        rw [if_neg (by omega)]
      · wtm_at "x"
        intro p n_p
        have e_p : Ext H' (upd H' p (.lst [])) := Only'.put0 Only'.refl n_p
        have h_p : (upd H' p (.lst [])) p = some (.lst []) := upd_same
        generalize (upd H' p (.lst [])) = H2 at *
        wtm_at "x"
        intro p2 hp2
        refine fin [] H2 p ?_ e_p (by rw [h_p]; rfl) (c.ext.free n_p) p2 hp2
        show (if many = 0 then [] else [many, byte]) = _
        rw [if_pos (by omega)]
theorem told_end {H0 H H2 : Hp} {f p : Addr} {ts : List Addr} {s0 : WSt} {row x : Row} {Q : VK} (c : Acc H0 f (outAt s0 row) row.length H ts) (e2 : Ext H H2) (hp : H2 p = some (.lst (iV x))) (hx : wend (stAt s0 row row.length) = x) (hpn : H0 p = none) (hz : row.length ≤ 4000)
    (q : ToldR K H0 (outs s0 row) Q) : ∀ p2, H2 p2 = none → rCat (.ref f) (.ref p2) (upd H2 p2 (.lst [V.ref p])) Q := by
  intro p2 hp2
  have hlen := c.few
  refine x_cat (keep (e2 f _ c.here (by simp)) hp2) upd_same (by rw [List.length_map, hlen, sizeLine_eq]; simp; omega) fun r hr => ?_
  have e3 : Ext H (upd (upd H2 p2 (.lst [V.ref p])) r (.lst (ts.map V.ref ++ [V.ref p]))) := (e2.new hp2).new hr
  refine q _ r (ts ++ [p]) (c.ext.trans e3) (c.ext.free (e2.free (upd_none hr).2)) (by rw [upd_same, List.map_append]; rfl) ?_ (all_snoc c.new hpn)
  rw [outs_at, hx]
  exact (c.rows.ext e3).snoc (keep (keep hp hp2) hr)
end
end Flow

namespace Flow
open PySem PySem.Spec PyProof.Rows L2
local macro_rules | `(tactic| wtm_at "x1") => `(tactic| first
  | (with_reducible refine Flow.x_lenSet ?_)
  | (with_reducible refine Flow.x_dget2 ?_))
/-! ### the law's own writing: front -/
theorem gvn_ints {n : Nat} {c : Nat → Bool} {f : Nat → Int} : gvn n c (fun i => V.int (f i)) = iV (((List.range n).filter c).map f) := by
  unfold gvn iV
  rw [List.map_map]
  rfl
theorem filter_gI {p : Int → Bool} (r : Row) : (((List.range r.length).filter fun i : Nat => p (gI r (i : Int))).map fun i : Nat => gI r (i : Int)) = r.filter p := by
  have e : r.filter p = ((List.range r.length).map fun i : Nat => gI r (i : Int)).filter p := by
    have e2 := map_gI (fun x : Int => x) r
    rw [List.map_id'] at e2
    rw [e2]
  rw [e, List.filter_map]
  rfl
theorem gI_take {r : Row} {i j : Nat} (h : j < i) : gI (r.take i) (j : Int) = gI r (j : Int) := by
  unfold gI
  rw [Int.toNat_natCast, List.getD_eq_getElem?_getD, List.getD_eq_getElem?_getD, List.getElem?_take]
  rw [if_pos h]
section
variable {P : Program} {w : World} {K : PySem.W.Frag} {mg : Str → Option Value} {base : Heap}
theorem ok_law_write_front (T : Tx K mg) : DefOk P w K mg base 1 (He.ga K "_law_write_front") ["_law_row_here"] (spWrite (.front range256) K) := by
  refine def_ok (N := n_law_write_front) (fn_law_write_front T) sc_law_write_front (fun _ _ _ _ _ _ us hl => match us, hl with | [_], _ => rfl) (fun vs H Q E h => ?_) (fun cdv A outer s H vs Q E hr h => ?_)
  · obtain ⟨a, row, rfl, _⟩ := h
    rfl
  · obtain ⟨a, row, rfl, hs, hby, hz, q⟩ := h
    refine ⟨_, [_, _, _, _, _, _, _, _, _], (pss_cons (ps_set (i := 1) sc_law_write_front.nd rfl (Or.inl rfl) (pe_lst pa_nil))
      (pss_cons (ps_for (passes_of rfl) rfl (pi_range1 rfl (f_range T) (pa_cons (pe_callB call_lenS rfl (f_len T) (by decide +kernel) (pa_cons (pv 0) pa_nil)) pa_nil)) (pg_name (i := 2) sc_law_write_front.nd rfl (Or.inr rfl)) (pss_cons (ps_set (i := 3) sc_law_write_front.nd rfl (Or.inr rfl) (pe_slice sl_list (pv 0) po_none (po_some (pv 2))))
      (pss_cons (ps_set (i := 4) sc_law_write_front.nd rfl (Or.inl rfl) (pv 3))
      (pss_cons (ps_set (i := 5) sc_law_write_front.nd rfl (Or.inl rfl) pe_int)
      (pss_cons (ps_if (pt_cmpR op_in_seq (pe_ix ix_list (pv 0) (pv 2) (fun _ _ => rfl)) (pv 3) (by rfl)) (pss_cons (ps_set (i := 6) sc_law_write_front.nd rfl (Or.inl rfl) (pe_callB (cr_max rfl) rfl (f_max T) (by decide +kernel) (pa_cons (pe_lc (own := [("_law_j", 7)]) (g := gName 7) rfl sc_law_write_front.nd (pi_range1 rfl (f_range T) (pa_cons (pv 2) pa_nil)) (blkOk_by (own := [("_law_j", 7)]) (N := n_law_write_front) (sc := defScope s_law_write_front) (by decide +kernel)) (fun _ _ _ _ _ => pg_name (i := 7) sc_law_write_front.nd rfl (Or.inl rfl)) (fun _ _ _ _ _ => (pts_one (pt_cmpR op_eq (pe_ix (ix_listK K rfl) (pv 3) (pv 7) (fun _ _ => rfl)) (pe_ix (ix_listK K rfl) (pv 0) (pv 2) (fun _ _ => rfl)) (nomark _)))) (fun _ _ _ _ _ => (pv 7))) pa_nil)))
      (pss_one (ps_set (i := 4) sc_law_write_front.nd rfl (Or.inl rfl) (pe_slice sl_list (pv 3) (po_some (pe_op op_add (pv 6) pe_int)) po_none)))) (pss_one (ps_set (i := 5) sc_law_write_front.nd rfl (Or.inl rfl) (pe_op op_sub (pe_ix ix_list (pv 0) (pv 2) (fun _ _ => rfl)) (pe_lenSetG rfl rfl (f_len T) rfl (f_set T) (pe_lc (own := [("_law_byte", 8)]) (g := gName 8) rfl sc_law_write_front.nd (pi_list (pv 3)) (blkOk_by (own := [("_law_byte", 8)]) (N := n_law_write_front) (sc := defScope s_law_write_front) (by decide +kernel)) (fun _ _ _ _ _ => pg_name (i := 8) sc_law_write_front.nd rfl (Or.inl rfl)) (fun _ _ _ _ _ => (pts_one (pt_cmpR op_lt (pv 8) (pe_ix (ix_listK K rfl) (pv 0) (pv 2) (fun _ _ => rfl)) (nomark _)))) (fun _ _ _ _ _ => (pv 8))))))))
      (pss_one (ps_expr (pe_bm PySem.F.plainAttrs_list PySem.F.slot_list_append PySem.F.type_list_append mt_append (pv 1) (pa_cons (pe_lst (pa_cons (pe_op op_add (pe_lenSetG rfl rfl (f_len T) rfl (f_set T) (pv 4)) (pv 5)) pa_nil)) pa_nil)))))))))
      (pss_one (ps_ret (pe_op op_cat (pv 1) (pe_lst (pa_cons (pe_lst pa_nil) pa_nil))))))), rfl, ?_⟩
    try dsimp only [cxOf]
    wtm_at "x"
    intro f hf
    wtm_at "x"
    refine x_len (Or.inl (SqL.ext (Only'.put0 Only'.refl hf) hs)) ?_
    rw [iV_length]
    wtm_at "x"
    refine x_rForR1 (k := row.length) rfl (by omega) (fun i σ H' => ∃ (ts : List Addr) (v2 v3 v4 v5 v6 v7 v8 : Option V), σ = [some (.ref a), some (.ref f), v2, v3, v4, v5, v6, v7, v8] ∧ Acc H f (outAt (.front range256) row) i H' ts)
      ⟨[], _, _, _, _, _, _, _, rfl, Acc.start upd_same (Only'.put0 Only'.refl hf)⟩ ?_ ?_
    · rintro i σ H' hi ⟨ts, v2, v3, v4, v5, v6, v7, v8, rfl, c⟩
      have hs1 := SqL.ext c.ext hs
      have hlen := c.few
      have hsz : (ts.map V.ref).length < sizeLine := by
        rw [List.length_map, hlen, sizeLine_eq]
        omega
      wtm_at "x"
      rw [cut_to (k := i) rfl]
      have et : (iV row).take i = iV (row.take i) := by
        unfold iV
        rw [List.map_take]
      rw [et]
      intro p n_p
      have e_p : Ext H' (upd H' p (.lst (iV (row.take i)))) := Only'.put0 Only'.refl n_p
      have h_p : (upd H' p (.lst (iV (row.take i)))) p = some (.lst (iV (row.take i))) := upd_same
      generalize (upd H' p (.lst (iV (row.take i)))) = H1 at *
      have c1 := c.to e_p
      have hs2 := SqL.ext e_p hs1
      have hti : (row.take i).length = i := by rw [List.length_take, Nat.min_eq_left (by omega)]
      wtm_at "x"
      refine x_ixL hs2 (gI_at (by omega) (by omega)) ?_
      wtm_at "x"
      refine x_inI (Or.inl (SqL.of h_p)) ?_
      wtm_at "x"
      refine ite_d (fun hin => ?_) fun hin => ?_
      · wtm_at "x"
        refine x_rLcRT (k := i) (fun j => decide (gI (row.take i) (j : Int) = gI row (i : Int))) (fun j => V.int (j : Int)) rfl (by omega) (fun _ => rfl) (fun j H2 hj e B k => ?_) (fun j H2 hj hc e Q' k => ?_) fun l H2 hl e hl1 => ?_
        · wtm_at "x"
          refine x_ixL (SqL.ext e (SqL.of h_p)) (gI_at (by omega) (by omega)) ?_
          wtm_at "x"
          refine x_ixL (SqL.ext e hs2) (gI_at (by omega) (by omega)) ?_
          wtm_at "x"
          exact k _ Only'.refl
        · wtm_at "x"
          exact k _ Only'.refl
        · rw [gvn_ints] at hl1
          wtm_at "x"
          have hpos : 0 < (((List.range i).filter fun j : Nat => decide (gI (row.take i) (j : Int) = gI row (i : Int))).map fun j : Nat => (j : Int)).length := by
            obtain ⟨j, hj, ej⟩ := List.getElem_of_mem hin
            have e1 : (row.take i)[j]? = some (gI row (i : Int)) := by rw [List.getElem?_eq_getElem hj, ej]
            exact List.length_pos_of_mem (List.mem_map.mpr ⟨j, List.mem_filter.mpr ⟨List.mem_range.mpr (by omega), decide_eq_true (gI_nat e1)⟩, rfl⟩)
          refine x_max (SqL.of hl1) hpos fun m hm hmax => ?_
          obtain ⟨last, hlast, rfl⟩ := List.mem_map.mp hm
          obtain ⟨hl1', hl2⟩ := List.mem_filter.mp hlast
          have hli : last < i := List.mem_range.mp hl1'
          have hl3 : gI row (last : Int) = gI row (i : Int) := by rw [← gI_take hli]; exact of_decide_eq_true hl2
          have hno : gI row (i : Int) ∉ (row.take i).drop (last + 1) := fun z => by
            obtain ⟨j, hj, ej⟩ := List.getElem_of_mem z
            have e1 : (row.take i)[last + 1 + j]? = some (gI row (i : Int)) := by
              rw [← List.getElem?_drop, List.getElem?_eq_getElem hj, ej]
            have hlt : last + 1 + j < i := by
              have := (List.getElem?_eq_some_iff.mp e1).1
              omega
            have := hmax _ (List.mem_map.mpr ⟨last + 1 + j, List.mem_filter.mpr ⟨List.mem_range.mpr hlt, decide_eq_true (gI_nat e1)⟩, rfl⟩)
            omega
          have h_p2 := e p _ h_p (by simp)
          have c2 := c1.to e
          wtm_at "x"
          rw [cut_from (k := last + 1) (by omega)]
          have ed : (iV (row.take i)).drop (last + 1) = iV ((row.take i).drop (last + 1)) := by
            unfold iV
            rw [List.map_drop]
          rw [ed]
          intro p3 n_p3
          have e_p3 : Ext H2 (upd H2 p3 (.lst (iV ((row.take i).drop (last + 1))))) := Only'.put0 Only'.refl n_p3
          have h_p3 : (upd H2 p3 (.lst (iV ((row.take i).drop (last + 1))))) p3 = some (.lst (iV ((row.take i).drop (last + 1)))) := upd_same
          generalize (upd H2 p3 (.lst (iV ((row.take i).drop (last + 1))))) = H3 at *
          have c3 := c2.to e_p3
          have hh := c3.here
          wtm_at "x"
          refine x_rLenSet (SqL.of h_p3) (by rw [List.length_drop]; omega) ?_
          wtm_at "x"
          intro p4 hp4
          have c4 := c3.to (Only'.put0 Only'.refl hp4 : Ext H3 (upd H3 p4 (.lst [V.int ((nd ((row.take i).drop (last + 1)) : Nat) + 0)])))
          have hh4 := c4.here
          wtm_at "x"
          refine ⟨_, _, _, _, _, _, _, _, rfl, c4.next hf ?_ (Ne.symm (ne_of_none c3.here hp4)) (c3.ext.free hp4)⟩
          rw [upd_same, front_old hby hi hli hl3 hno, Int.add_zero]
          rfl
      · wtm_at "x"
        refine x_ixL hs2 (gI_at (by omega) (by omega)) ?_
        wtm_at "x"
        refine x_rLcLT (fun j => decide (gI (row.take i) (j : Int) < gI row (i : Int))) (fun j => V.int (gI (row.take i) (j : Int))) (SqL.of h_p) (by rw [iV_length, sizeLine_eq]; omega) (fun _ => rfl) (fun j x H2 hj e B k => ?_) (fun j x H2 hj hc e Q' k => ?_) fun l H2 hl e hl1 => ?_
        · obtain ⟨z, hz1, rfl⟩ := iV_get hj
          wtm_at "x"
          refine x_ixL (SqL.ext e hs2) (gI_at (by omega) (by omega)) ?_
          wtm_at "x"
          rw [← gI_nat hz1]
          exact k _ Only'.refl
        · obtain ⟨z, hz1, rfl⟩ := iV_get hj
          wtm_at "x"
          rw [← gI_nat hz1]
          exact k _ Only'.refl
        · rw [gvn_ints, iV_length, filter_gI (p := fun x => decide (x < gI row (i : Int)))] at hl1
          have c2 := c1.to e
          have h_p2 := e p _ h_p (by simp)
          wtm_at "x"
          refine x_rLenSet (SqL.of hl1) (Nat.le_trans (List.length_filter_le _ _) (by omega)) ?_
          have hh := c2.here
          wtm_at "x"
          refine x_rLenSet (SqL.of h_p2) (by omega) ?_
          wtm_at "x"
          intro p4 hp4
          have hh4 := upd_get (o := .lst [V.int ((nd (row.take i) : Nat) + (gI row (i : Int) - (nd ((row.take i).filter fun x => decide (x < gI row (i : Int))) : Nat)))]) (ne_of_none c2.here hp4) c2.here
          wtm_at "x"
          refine ⟨_, _, _, _, _, _, _, _, rfl, (c2.to (Only'.put0 Only'.refl hp4)).next hf ?_ (Ne.symm (ne_of_none c2.here hp4)) (c2.ext.free hp4)⟩
          rw [upd_same, front_new hby hi hin]
          rfl
    · rintro σ H' ⟨ts, v2, v3, v4, v5, v6, v7, v8, rfl, c⟩
      wtm_at "x"
      intro p n_p
      have e_p : Ext H' (upd H' p (.lst [])) := Only'.put0 Only'.refl n_p
      have h_p : (upd H' p (.lst [])) p = some (.lst []) := upd_same
      generalize (upd H' p (.lst [])) = H1 at *
      wtm_at "x"
      exact told_end (x := []) c e_p h_p (front_end hby) (c.ext.free n_p) hz q
end
end Flow

namespace Flow
open PySem PySem.Spec PyProof.Rows L2
local macro_rules | `(tactic| wtm_at "x1") => `(tactic| first
  | (with_reducible refine Flow.x_lenSet ?_)
  | (with_reducible refine Flow.x_dget2 ?_))
/-! ### the law's own writing: chunks, checks -/
section
variable {P : Program} {w : World} {K : PySem.W.Frag} {mg : Str → Option Value} {base : Heap}
theorem at_neg {xs : List V} {j : Nat} {v : V} (h : xs.length = j + 1) (e : xs[j]? = some v) : atI xs (-1) = some v := by
  have e2 : ixN xs.length (-1) = some j := by
    rw [h]
    unfold ixN
    rw [if_neg (by decide)]
    show (if _ then some _ else none) = _
    rw [if_pos (by omega)]
    congr 1
    omega
  unfold atI
  rw [e2]
  exact e
theorem full_iff (i n : Nat) (h : 1 ≤ n) : (((i : Int) + 1) % (n : Int) = 0) = ((i + 1) % n = 0) := by
  have e : ((i : Int) + 1) % (n : Int) = (((i + 1) % n : Nat) : Int) := by
    rw [Int.natCast_emod]
    rfl
  rw [e]
  exact propext ⟨fun z => by omega, fun z => by omega⟩
theorem ok_law_write_pieces (T : Tx K mg) : DefOk P w K mg base 2 (He.ga K "_law_write_pieces") ["_law_word", "_law_size", "_law_row_here"] (spPieces K) := by
  have D_law_checks := ok_law_checks (P := P) (w := w) (base := base) T
  refine def_ok (N := n_law_write_pieces) (fn_law_write_pieces T) sc_law_write_pieces (fun _ _ _ _ _ _ us hl => match us, hl with | [_, _, _], _ => rfl) (fun vs H Q E h => ?_) (fun cdv A outer s H vs Q E hr h => ?_)
  · obtain ⟨a, row, c, n, rfl, _⟩ := h
    rfl
  · obtain ⟨a, row, cc, n, rfl, hs, hby, hz, h1, h255, q⟩ := h
    refine ⟨_, [_, _, _, _, _, _, _, _], (pss_cons (ps_set (i := 3) sc_law_write_pieces.nd rfl (Or.inl rfl) (pe_lst pa_nil))
      (pss_cons (ps_set (i := 4) sc_law_write_pieces.nd rfl (Or.inl rfl) (pe_fn D_law_checks (g_law_checks T) (hr.mono (by first | decide | omega)) (fun _ => passE) (pa_cons (pv 2) pa_nil)))
      (pss_cons (ps_for (passes_of rfl) rfl (pi_range1 rfl (f_range T) (pa_cons (pe_callB call_lenS rfl (f_len T) (by decide +kernel) (pa_cons (pv 2) pa_nil)) pa_nil)) (pg_name (i := 5) sc_law_write_pieces.nd rfl (Or.inl rfl)) (pss_cons (ps_set (i := 6) sc_law_write_pieces.nd rfl (Or.inl rfl) (pe_cmpR op_eq (pe_op op_modN (pe_op op_add (pv 5) pe_int) (pv 1)) pe_int (nomark _)))
      (pss_one (ps_if (pt_cmpR op_eq (pv 0) pe_str (nomark _)) (pss_one (ps_expr (pe_bm PySem.F.plainAttrs_list PySem.F.slot_list_append PySem.F.type_list_append mt_append (pv 3) (pa_cons (pe_ifExp (pt_val (pv 6)) (pe_op op_cat (pe_lst (pa_cons (pv 1) pa_nil)) (pe_slice sl_list (pv 2) (po_some (pe_op op_sub (pe_op op_add (pv 5) pe_int) (pv 1))) (po_some (pe_op op_add (pv 5) pe_int)))) (pe_lst pa_nil)) pa_nil)))) (pss_one (ps_expr (pe_bm PySem.F.plainAttrs_list PySem.F.slot_list_append PySem.F.type_list_append mt_append (pv 3) (pa_cons (pe_op op_cat (pe_lst (pa_cons (pe_ix ix_list (pv 2) (pv 5) (fun _ _ => rfl)) pa_nil)) (pe_ifExp (pt_val (pv 6)) (pe_ix ix_list (pv 4) (pe_op op_add (pv 5) pe_int) (fun _ _ => rfl)) (pe_lst pa_nil))) pa_nil))))))))
      (pss_cons (ps_set (i := 7) sc_law_write_pieces.nd rfl (Or.inl rfl) (pe_op op_modN (pe_callB call_lenS rfl (f_len T) (by decide +kernel) (pa_cons (pv 2) pa_nil)) (pv 1)))
      (pss_cons (ps_if (pt_cmpR op_eq (pv 0) pe_str (nomark _)) (pss_one (ps_ret (pe_op op_cat (pv 3) (pe_lst (pa_cons (pe_op op_cat (pe_lst (pa_cons (pv 7) pa_nil)) (pe_slice sl_list (pv 2) (po_some (pe_op op_sub (pe_callB call_lenS rfl (f_len T) (by decide +kernel) (pa_cons (pv 2) pa_nil)) (pv 7))) po_none)) pa_nil))))) pss_nil)
      (pss_one (ps_ret (pe_op op_cat (pv 3) (pe_lst (pa_cons (pe_ix ix_list (pv 4) (pe_un un_neg pe_int) (fun _ _ => rfl)) pa_nil)))))))))), rfl, ?_⟩
    try dsimp only [cxOf]
    wtm_at "x"
    intro f n_f
    have e_f : Ext H (upd H f (.lst [])) := Only'.put0 Only'.refl n_f
    have h_f : (upd H f (.lst [])) f = some (.lst []) := upd_same
    generalize (upd H f (.lst [])) = H1 at *
    wtm_at "x"
    refine ⟨a, row, rfl, SqL.ext e_f hs, by omega, fun H2 ck cts e2 hck0 hck hcr hcn => ?_⟩
    have hs2 := SqL.ext (e_f.trans e2) hs
    have hckf : ck ≠ f := fun z => by
      rw [z, h_f] at hck0
      cases hck0
    have hctf : ∀ t, t ∈ cts → t ≠ f := fun t ht z => by
      obtain ⟨j, hj, ej⟩ := List.getElem_of_mem ht
      have hj2 : j < ((chk row).map checkBytes).length := by rw [← hcr.len]; exact hj
      have e4 := hcr.at_ j t _ (by rw [List.getElem?_eq_getElem hj, ej]) (List.getElem?_eq_getElem hj2)
      rw [z, e2 f _ h_f (by simp), List.getElem_map] at e4
      cases e4
    wtm_at "x"
    rw [iV_length]
    refine x_rForR1 (k := row.length) rfl (by omega) (fun i σ H' => ∃ (ts : List Addr) (v5 v6 v7 : Option V), σ = [some (.str (chunkOr cc)), some (.int (n : Int)), some (.ref a), some (.ref f), some (.ref ck), v5, v6, v7] ∧ Acc H f (outAt (newW (layOr cc n)) row) i H' ts ∧ H' ck = some (.lst (cts.map V.ref)) ∧ RowsIn H' cts ((chk row).map checkBytes))
      ⟨[], _, _, _, rfl, Acc.start (e2 f _ h_f (by simp)) (e_f.trans e2), hck, hcr⟩ ?_ ?_
    · rintro i σ H' hi ⟨ts, v5, v6, v7, rfl, c, hck3, hcr3⟩
      have hs1 := SqL.ext c.ext hs
      have hlen := c.few
      have hsz : (ts.map V.ref).length < sizeLine := by
        rw [List.length_map, hlen, sizeLine_eq]
        omega
      wtm_at "x"
      rw [fmod_pos (by omega), show decide (((i : Int) + 1) % (n : Int) = 0) = decide ((i + 1) % n = 0) from by simp only [full_iff i n h1]]
      have hh := c.here
      cases cc
      · refine ite_d (fun z => absurd (show ("checks" : Str) = "chunks" from z) (by decide +kernel)) fun _ => ?_
        have ho := checks_out n h1 row hi
        wtm_at "x"
        refine x_ixL hs1 (gI_at (by omega) (by omega)) ?_
        wtm_at "x"
        intro p n_p
        have e_p : Ext H' (upd H' p (.lst [V.int (gI row (i : Int))])) := Only'.put0 Only'.refl n_p
        have h_p : (upd H' p (.lst [V.int (gI row (i : Int))])) p = some (.lst [V.int (gI row (i : Int))]) := upd_same
        generalize (upd H' p (.lst [V.int (gI row (i : Int))])) = H3 at *
        wtm_at "x"
        refine ite_d (fun hfull => ?_) fun hfull => ?_
        · rw [if_pos hfull] at ho
          obtain ⟨ct, hct, hcv⟩ := (hcr3.ext e_p).get (i := i + 1) (r := checkBytes (checkAll 0 (row.take (i + 1)))) (by
            rw [List.getElem?_map]
            unfold chk
            rw [scan_get 0 row (i + 1) (by omega)]
            rfl)
          wtm_at "x"
          refine x_ixL (SqL.of (e_p ck _ hck3 (by simp))) (v := .ref ct) (at_of (j := i + 1) (by omega) (by rw [List.getElem?_map, hct]; rfl)) ?_
          refine x_cat h_p hcv (by rw [sizeLine_eq]; simp [checkBytes, iV]) ?_
          intro p2 n_p2
          have e_p2 : Ext H3 (upd H3 p2 (.lst ([V.int (gI row (i : Int))] ++ iV (checkBytes (checkAll 0 (row.take (i + 1))))))) := Only'.put0 Only'.refl n_p2
          have h_p2 : (upd H3 p2 (.lst ([V.int (gI row (i : Int))] ++ iV (checkBytes (checkAll 0 (row.take (i + 1))))))) p2 = some (.lst ([V.int (gI row (i : Int))] ++ iV (checkBytes (checkAll 0 (row.take (i + 1)))))) := upd_same
          generalize (upd H3 p2 (.lst ([V.int (gI row (i : Int))] ++ iV (checkBytes (checkAll 0 (row.take (i + 1))))))) = H4 at *
          have e4 := e_p.trans e_p2
          have hh2 := (c.to e4).here
          wtm_at "x"
          exact ⟨_, _, _, _, rfl, (c.to e4).next n_f (by rw [h_p2]; exact congrArg (fun z => some (HO.lst (iV z))) ho.symm) (Ne.symm (ne_of_none (c.to e_p).here n_p2)) ((c.to e_p).ext.free n_p2), upd_get hckf (e4 ck _ hck3 (by simp)), (hcr3.ext e4).put hctf⟩
        · rw [if_neg hfull] at ho
          wtm_at "x"
          intro p2 n_p2
          have e_p2 : Ext H3 (upd H3 p2 (.lst [])) := Only'.put0 Only'.refl n_p2
          have h_p2 : (upd H3 p2 (.lst [])) p2 = some (.lst []) := upd_same
          generalize (upd H3 p2 (.lst [])) = H4 at *
          refine x_cat (e_p2 p _ h_p (by simp)) h_p2 (by rw [sizeLine_eq]; simp) ?_
          intro p3 n_p3
          have e_p3 : Ext H4 (upd H4 p3 (.lst ([V.int (gI row (i : Int))] ++ []))) := Only'.put0 Only'.refl n_p3
          have h_p3 : (upd H4 p3 (.lst ([V.int (gI row (i : Int))] ++ []))) p3 = some (.lst ([V.int (gI row (i : Int))] ++ [])) := upd_same
          generalize (upd H4 p3 (.lst ([V.int (gI row (i : Int))] ++ []))) = H5 at *
          have e4 := (e_p.trans e_p2).trans e_p3
          have hh2 := (c.to e4).here
          wtm_at "x"
          exact ⟨_, _, _, _, rfl, (c.to e4).next n_f (by rw [h_p3]; exact congrArg (fun z => some (HO.lst (iV z))) ho.symm) (Ne.symm (ne_of_none (c.to (e_p.trans e_p2)).here n_p3)) ((c.to (e_p.trans e_p2)).ext.free n_p3), upd_get hckf (e4 ck _ hck3 (by simp)), (hcr3.ext e4).put hctf⟩
      · refine ite_d (fun _ => ?_) fun z => absurd rfl z
        have ho := chunks_out n h1 row hi
        wtm_at "x"
        refine ite_d (fun hfull => ?_) fun hfull => ?_
        · rw [if_pos hfull] at ho
          have hni : n ≤ i + 1 := Nat.le_of_dvd (by omega) (Nat.dvd_of_mod_eq_zero hfull)
          wtm_at "x"
          intro p n_p
          have e_p : Ext H' (upd H' p (.lst [V.int (n : Int)])) := Only'.put0 Only'.refl n_p
          have h_p : (upd H' p (.lst [V.int (n : Int)])) p = some (.lst [V.int (n : Int)]) := upd_same
          generalize (upd H' p (.lst [V.int (n : Int)])) = H3 at *
          have hs3 := SqL.ext e_p hs1
          wtm_at "x"
          rw [cut_both (i := i + 1 - n) (k := i + 1) (by omega) (by omega)]
          have ecut : ((iV row).drop (i + 1 - n)).take (i + 1 - (i + 1 - n)) = iV ((row.take (i + 1)).drop (i + 1 - n)) := by
            unfold iV
            rw [← List.drop_take, ← List.map_take, ← List.map_drop]
          rw [ecut]
          intro p2 n_p2
          have e_p2 : Ext H3 (upd H3 p2 (.lst (iV ((row.take (i + 1)).drop (i + 1 - n))))) := Only'.put0 Only'.refl n_p2
          have h_p2 : (upd H3 p2 (.lst (iV ((row.take (i + 1)).drop (i + 1 - n))))) p2 = some (.lst (iV ((row.take (i + 1)).drop (i + 1 - n)))) := upd_same
          generalize (upd H3 p2 (.lst (iV ((row.take (i + 1)).drop (i + 1 - n))))) = H4 at *
          refine x_cat (e_p2 p _ h_p (by simp)) h_p2 (by rw [iV_length, List.length_drop, List.length_take, sizeLine_eq]; simp; omega) ?_
          intro p3 n_p3
          have e_p3 : Ext H4 (upd H4 p3 (.lst ([V.int (n : Int)] ++ iV ((row.take (i + 1)).drop (i + 1 - n))))) := Only'.put0 Only'.refl n_p3
          have h_p3 : (upd H4 p3 (.lst ([V.int (n : Int)] ++ iV ((row.take (i + 1)).drop (i + 1 - n))))) p3 = some (.lst ([V.int (n : Int)] ++ iV ((row.take (i + 1)).drop (i + 1 - n)))) := upd_same
          generalize (upd H4 p3 (.lst ([V.int (n : Int)] ++ iV ((row.take (i + 1)).drop (i + 1 - n))))) = H5 at *
          have e4 := (e_p.trans e_p2).trans e_p3
          have hh2 := (c.to e4).here
          wtm_at "x"
          exact ⟨_, _, _, _, rfl, (c.to e4).next n_f (by rw [h_p3]; exact congrArg (fun z => some (HO.lst (iV z))) ho.symm) (Ne.symm (ne_of_none (c.to (e_p.trans e_p2)).here n_p3)) ((c.to (e_p.trans e_p2)).ext.free n_p3), upd_get hckf (e4 ck _ hck3 (by simp)), (hcr3.ext e4).put hctf⟩
        · rw [if_neg hfull] at ho
          wtm_at "x"
          intro p n_p
          have e_p : Ext H' (upd H' p (.lst [])) := Only'.put0 Only'.refl n_p
          have h_p : (upd H' p (.lst [])) p = some (.lst []) := upd_same
          generalize (upd H' p (.lst [])) = H3 at *
          have hh2 := (c.to e_p).here
          wtm_at "x"
          exact ⟨_, _, _, _, rfl, (c.to e_p).next n_f (by rw [h_p]; exact congrArg (fun z => some (HO.lst (iV z))) ho.symm) (Ne.symm (ne_of_none c.here n_p)) (c.ext.free n_p), upd_get hckf (e_p ck _ hck3 (by simp)), (hcr3.ext e_p).put hctf⟩
    · rintro σ H' ⟨ts, v5, v6, v7, rfl, c, hck3, hcr3⟩
      have hs1 := SqL.ext c.ext hs
      wtm_at "x"
      rw [iV_length, fmod_pos (by omega)]
      have em : (row.length : Int) % (n : Int) = ((row.length % n : Nat) : Int) := rfl
      rw [em]
      cases cc
      · refine ite_d (fun z => absurd (show ("checks" : Str) = "chunks" from z) (by decide +kernel)) fun _ => ?_
        have ho := checks_end n h1 row
        obtain ⟨ct, hct, hcv⟩ := hcr3.get (i := row.length) (r := checkBytes (checkAll 0 row)) (by
          rw [List.getElem?_map]
          unfold chk
          rw [scan_get 0 row row.length (Nat.le_refl _), List.take_length]
          rfl)
        have hcl : cts.length = row.length + 1 := by
          rw [hcr3.len, List.length_map]
          exact scan_len 0 row
        wtm_at "x"
        refine x_ixL (SqL.of hck3) (v := .ref ct) (at_neg (xs := cts.map V.ref) (j := row.length) (by rw [List.length_map, hcl]) (by rw [List.getElem?_map, hct]; rfl)) ?_
        wtm_at "x"
        exact told_end c Only'.refl hcv ho (e_f.free (hcn ct (List.mem_of_getElem? hct))) hz q
      · refine ite_d (fun _ => ?_) fun z => absurd rfl z
        have ho := chunks_end n h1 row
        wtm_at "x"
        intro p n_p
        have e_p : Ext H' (upd H' p (.lst [V.int ((row.length % n : Nat) : Int)])) := Only'.put0 Only'.refl n_p
        have h_p : (upd H' p (.lst [V.int ((row.length % n : Nat) : Int)])) p = some (.lst [V.int ((row.length % n : Nat) : Int)]) := upd_same
        generalize (upd H' p (.lst [V.int ((row.length % n : Nat) : Int)])) = H3 at *
        have hs3 := SqL.ext e_p hs1
        wtm_at "x"
        have hml := Nat.mod_le row.length n
        rw [cut_from (k := row.length - row.length % n) (by rw [iV_length]; omega)]
        have ecut : (iV row).drop (row.length - row.length % n) = iV (row.drop (row.length - row.length % n)) := by
          unfold iV
          rw [← List.map_drop]
        rw [ecut]
        intro p2 n_p2
        have e_p2 : Ext H3 (upd H3 p2 (.lst (iV (row.drop (row.length - row.length % n))))) := Only'.put0 Only'.refl n_p2
        have h_p2 : (upd H3 p2 (.lst (iV (row.drop (row.length - row.length % n))))) p2 = some (.lst (iV (row.drop (row.length - row.length % n)))) := upd_same
        generalize (upd H3 p2 (.lst (iV (row.drop (row.length - row.length % n))))) = H4 at *
        refine x_cat (e_p2 p _ h_p (by simp)) h_p2 (by rw [iV_length, List.length_drop, sizeLine_eq]; simp; omega) ?_
        intro p3 n_p3
        have e_p3 : Ext H4 (upd H4 p3 (.lst ([V.int ((row.length % n : Nat) : Int)] ++ iV (row.drop (row.length - row.length % n))))) := Only'.put0 Only'.refl n_p3
        have h_p3 : (upd H4 p3 (.lst ([V.int ((row.length % n : Nat) : Int)] ++ iV (row.drop (row.length - row.length % n))))) p3 = some (.lst ([V.int ((row.length % n : Nat) : Int)] ++ iV (row.drop (row.length - row.length % n)))) := upd_same
        generalize (upd H4 p3 (.lst ([V.int ((row.length % n : Nat) : Int)] ++ iV (row.drop (row.length - row.length % n))))) = H5 at *
        wtm_at "x"
        exact told_end c ((e_p.trans e_p2).trans e_p3) (by rw [h_p3]; rfl) ho ((c.to (e_p.trans e_p2)).ext.free n_p3) hz q
end
end Flow

namespace Flow
open PySem PySem.Spec PyProof.Rows L2
local macro_rules | `(tactic| wtm_at "x1") => `(tactic| first
  | (with_reducible refine Flow.x_lenSet ?_)
  | (with_reducible refine Flow.x_dget2 ?_))
/-! ### the law's own writing: a layer, the layers -/
theorem ToldR.to {K : PySem.W.Frag} {H H1 : Hp} {rows : List Row} {Q : VK} (q : ToldR K H rows Q) (e : Ext H H1) : ToldR K H1 rows Q := fun H' r ts e2 hr h1 h2 h3 => q H' r ts (e.trans e2) (e.free hr) h1 h2 fun t ht => e.free (h3 t ht)
theorem told_end2 {K : PySem.W.Frag} {H0 H H2 : Hp} {f p : Addr} {ts : List Addr} {g : Nat → Row} {n : Nat} {x : Row} {rows : List Row} {Q : VK} (c : Acc H0 f g n H ts) (e2 : Ext H H2) (hp : H2 p = some (.lst (iV x))) (hx : rows = (List.range n).map g ++ [x]) (hpn : H0 p = none) (hz : n ≤ 4000)
    (q : ToldR K H0 rows Q) : ∀ p2, H2 p2 = none → rCat (.ref f) (.ref p2) (upd H2 p2 (.lst [V.ref p])) Q := by
  intro p2 hp2
  have hlen := c.few
  refine x_cat (keep (e2 f _ c.here (by simp)) hp2) upd_same (by rw [List.length_map, hlen, sizeLine_eq]; simp; omega) fun r hr => ?_
  have e3 : Ext H (upd (upd H2 p2 (.lst [V.ref p])) r (.lst (ts.map V.ref ++ [V.ref p]))) := (e2.new hp2).new hr
  refine q _ r (ts ++ [p]) (c.ext.trans e3) (c.ext.free (e2.free (upd_none hr).2)) (by rw [upd_same, List.map_append]; rfl) ?_ (all_snoc c.new hpn)
  rw [hx]
  exact (c.rows.ext e3).snoc (keep (keep hp hp2) hr)
theorem bit_of {n : Nat} {r : Row} {x : Int} (h : x ∈ bitsOf n r) : x = 0 ∨ x = 1 := by
  obtain ⟨l, hl, hx⟩ := List.mem_flatten.mp h
  obtain ⟨b, _, rfl⟩ := List.mem_map.mp hl
  obtain ⟨k, _, rfl⟩ := List.mem_map.mp hx
  omega
theorem grp_in {bs : Row} (h : ∀ x, x ∈ bs → x = 0 ∨ x = 1) {g : Int} (hg : g ∈ groupsOf 6 bs) : 0 ≤ g ∧ g < 64 := by
  obtain ⟨k, hk, rfl⟩ := List.mem_map.mp hg
  have hk2 : k < bs.length / 6 := List.mem_range.mp hk
  have hl : ((bs.drop (6 * k)).take 6).length = 6 := by
    rw [List.length_take, List.length_drop]
    omega
  have hm : ∀ x, x ∈ (bs.drop (6 * k)).take 6 → x = 0 ∨ x = 1 := fun x hx => h x (List.mem_of_mem_drop (List.mem_of_mem_take hx))
  generalize (bs.drop (6 * k)).take 6 = l at *
  match l, hl, hm with
  | [a, b, c, d, e, f], _, hm =>
    rw [grp6]
    have h1 := hm a (by simp)
    have h2 := hm b (by simp)
    have h3 := hm c (by simp)
    have h4 := hm d (by simp)
    have h5 := hm e (by simp)
    have h6 := hm f (by simp)
    omega
def spOwn (K : PySem.W.Frag) : Sp := fun vs H Q _ => ∃ (t a : Addr) (ly : Lay) (row : Row), vs = [.ref t, .ref a] ∧ SqT K H t (layV ly) ∧ ly.Ok ∧ SqL K H a (iV row) ∧ Bys row ∧ row.length ≤ 4000 ∧ ToldR K H (outs (newW ly) row) Q
def spOwnAll (K : PySem.W.Frag) : Sp := fun vs H Q _ => ∃ (a r : Addr) (ts : List Addr) (lays : List Lay) (row : Row), vs = [.ref a, .ref r] ∧ SqL K H a (ts.map V.ref) ∧ ts.length = lays.length ∧
  (∀ (i : Nat) (t : Addr) (ly : Lay), ts[i]? = some t → lays[i]? = some ly → SqT K H t (layV ly)) ∧ (∀ ly, ly ∈ lays → ly.Ok) ∧ SqL K H r (iV row) ∧ Bys row ∧ (∀ j, j ≤ lays.length → (written (lays.take j) row).length ≤ 4000) ∧
  ∀ H' r', Ext H H' → SqL K H' r' (iV (written lays row)) → ((r' = r ∧ written lays row = row) ∨ H' r' = some (.lst (iV (written lays row)))) → Q (.ref r') H'
section
variable {P : Program} {w : World} {K : PySem.W.Frag} {mg : Str → Option Value} {base : Heap}
theorem ok_law_write (T : Tx K mg) : DefOk P w K mg base 3 (He.ga K "_law_write") ["_law_layer_here", "_law_row_here"] (spOwn K) := by
  have D_law_write_front := ok_law_write_front (P := P) (w := w) (base := base) T
  have D_law_write_runs := ok_law_write_runs (P := P) (w := w) (base := base) T
  have D_law_write_pieces := ok_law_write_pieces (P := P) (w := w) (base := base) T
  have D_law_bits := ok_law_bits (P := P) (w := w) (base := base) T
  have D_law_groups := ok_law_groups (P := P) (w := w) (base := base) T
  have D_law_signs := ok_law_signs (P := P) (w := w) (base := base) T
  refine def_ok (N := n_law_write) (fn_law_write T) sc_law_write (fun _ _ _ _ _ _ us hl => match us, hl with | [_, _], _ => rfl) (fun vs H Q E h => ?_) (fun cdv A outer s H vs Q E hr h => ?_)
  · obtain ⟨t, a, ly, row, rfl, _⟩ := h
    rfl
  · obtain ⟨t, a, ly, row, rfl, ht, ok, hs, hby, hz, q⟩ := h
    refine ⟨_, [_, _, _, _, _, _, _, _, _, _, _], (pss_cons (ps_if (pt_cmpR op_eq (pe_ix ix_tup (pv 0) pe_int (fun _ _ => rfl)) pe_str (nomark _)) (pss_cons (ps_set (i := 2) sc_law_write.nd rfl (Or.inr rfl) (pe_slice sl_tup (pv 0) (po_some pe_int) po_none))
      (pss_one (ps_ret (pe_op op_cat (pe_lc (own := [("_law_k", 9)]) (g := gName 9) (tt := tYes) rfl sc_law_write.nd (pi_range1 rfl (f_range T) (pa_cons (pe_callB call_lenS rfl (f_len T) (by decide +kernel) (pa_cons (pv 1) pa_nil)) pa_nil)) (blkOk_by (own := [("_law_k", 9)]) (N := n_law_write) (sc := defScope s_law_write) (by decide +kernel)) (fun _ _ _ _ _ => pg_name (i := 9) sc_law_write.nd rfl (Or.inl rfl)) (fun _ _ _ _ _ => pts_nil) (fun _ _ _ _ _ => (pe_lst (pa_cons (pe_op op_mod (pe_op op_add (pe_ix (ix_listK K rfl) (pv 1) (pv 9) (fun _ _ => rfl)) (pe_ix (ix_tupK K rfl) (pv 2) (pe_op op_modN (pv 9) (pe_callB (call_lenK K rfl) rfl (f_len T) (by decide +kernel) (pa_cons (pv 2) pa_nil))) (fun _ _ => rfl))) pe_int) pa_nil)))) (pe_lst (pa_cons (pe_lst pa_nil) pa_nil)))))) pss_nil)
      (pss_cons (ps_if (pt_cmpR op_eq (pe_ix ix_tup (pv 0) pe_int (fun _ _ => rfl)) pe_str (nomark _)) (pss_one (ps_ret (pe_fn D_law_write_front (g_law_write_front T) (hr.mono (by first | decide | omega)) (fun _ => passE) (pa_cons (pv 1) pa_nil)))) pss_nil)
      (pss_cons (ps_if (pt_cmpR op_eq (pe_ix ix_tup (pv 0) pe_int (fun _ _ => rfl)) pe_str (nomark _)) (pss_cons (ps_setLc (i := 3) (own := [("_law_k", 9)]) (g := gName 9) (tt := tYes) rfl sc_law_write.nd rfl rfl (sw_true rfl rfl rfl (by decide +kernel)) (pi_range1 rfl (f_range T) (pa_cons pe_int pa_nil)) (blkOk_by (own := [("_law_k", 9)]) (N := n_law_write) (sc := defScope s_law_write) (by decide +kernel)) (fun _ _ _ _ _ => pg_name (i := 9) sc_law_write.nd rfl (Or.inl rfl)) (fun _ _ _ _ _ => pts_nil) (fun _ _ _ _ _ => (pe_op op_mod (pe_op op_add (pe_ix (ix_tupK K rfl) (pv 0) pe_int (fun _ _ => rfl)) (pv 9)) pe_int)))
      (pss_cons (ps_set (i := 4) sc_law_write.nd rfl (Or.inr rfl) (pe_disp (pps_cons (pe_ix ix_list (pv 3) pe_int (fun _ _ => rfl)) (pe_lst (pa_cons (pe_ix ix_list (pv 3) pe_int (fun _ _ => rfl)) (pa_cons (pe_ix ix_list (pv 3) pe_int (fun _ _ => rfl)) pa_nil))) (pps_cons (pe_ix ix_list (pv 3) pe_int (fun _ _ => rfl)) (pe_lst (pa_cons (pe_ix ix_list (pv 3) pe_int (fun _ _ => rfl)) (pa_cons (pe_ix ix_list (pv 3) pe_int (fun _ _ => rfl)) pa_nil))) pps_nil)) rfl rfl (by simp) (by decide)))
      (pss_one (ps_ret (pe_op op_cat (pe_lc (own := [("_law_byte", 10)]) (g := gName 10) (tt := tYes) rfl sc_law_write.nd (pi_list (pv 1)) (blkOk_by (own := [("_law_byte", 10)]) (N := n_law_write) (sc := defScope s_law_write) (by decide +kernel)) (fun _ _ _ _ _ => pg_name (i := 10) sc_law_write.nd rfl (Or.inl rfl)) (fun _ _ _ _ _ => pts_nil) (fun _ _ _ _ _ => (pe_dget2 (units2 hr) (pv 4) (pv 10) (pe_lst (pa_cons (pv 10) pa_nil)) ⟨rfl, rfl, rfl, rfl⟩))) (pe_lst (pa_cons (pe_lst pa_nil) pa_nil))))))) pss_nil)
      (pss_cons (ps_if (pt_cmpR op_eq (pe_ix ix_tup (pv 0) pe_int (fun _ _ => rfl)) pe_str (nomark _)) (pss_one (ps_ret (pe_fn D_law_write_runs (g_law_write_runs T) (hr.mono (by first | decide | omega)) (fun _ => passE) (pa_cons (pv 1) pa_nil)))) pss_nil)
      (pss_cons (ps_if (pt_cmpR op_in_seq (pe_ix ix_tup (pv 0) pe_int (fun _ _ => rfl)) (pe_tup (pa_cons pe_str (pa_cons pe_str pa_nil))) (by rfl)) (pss_one (ps_ret (pe_fn D_law_write_pieces (g_law_write_pieces T) (hr.mono (by first | decide | omega)) (fun _ => passE) (pa_cons (pe_ix ix_tup (pv 0) pe_int (fun _ _ => rfl)) (pa_cons (pe_ix ix_tup (pv 0) pe_int (fun _ _ => rfl)) (pa_cons (pv 1) pa_nil)))))) pss_nil)
      (pss_cons (ps_set (i := 5) sc_law_write.nd rfl (Or.inl rfl) (pe_fn D_law_bits (g_law_bits T) (hr.mono (by first | decide | omega)) (fun _ => passE) (pa_cons (pv 1) (pa_cons pe_int pa_nil))))
      (pss_cons (ps_set (i := 6) sc_law_write.nd rfl (Or.inr rfl) (pe_lc (own := [("_law_group", 8)]) (g := gName 8) (tt := tYes) rfl sc_law_write.nd (pi_list (pe_fn D_law_groups (g_law_groups T) (hr.mono (by first | decide | omega)) (fun _ => passE) (pa_cons (pe_op op_cat (pv 5) (pe_op op_rep (pe_lst (pa_cons pe_int pa_nil)) (pe_op op_mod (pe_un un_neg (pe_callB call_lenS rfl (f_len T) (by decide +kernel) (pa_cons (pv 5) pa_nil))) pe_int))) (pa_cons pe_int pa_nil)))) (blkOk_by (own := [("_law_group", 8)]) (N := n_law_write) (sc := defScope s_law_write) (by decide +kernel)) (fun _ _ _ _ _ => pg_name (i := 8) sc_law_write.nd rfl (Or.inl rfl)) (fun _ _ _ _ _ => pts_nil) (fun _ _ _ _ _ => (pe_ix (ix_listK K rfl) (pe_fn0 D_law_signs (g_law_signs T) (hr.mono (by first | decide | omega)) (fun _ => passE)) (pv 8) (fun _ _ => rfl)))))
      (pss_cons (ps_setLc (i := 7) (own := [("_law_k", 9)]) (g := gName 9) (tt := tYes) rfl sc_law_write.nd rfl rfl (sw_true rfl rfl rfl (by decide +kernel)) (pi_range1 rfl (f_range T) (pa_cons (pe_callB call_lenS rfl (f_len T) (by decide +kernel) (pa_cons (pv 1) pa_nil)) pa_nil)) (blkOk_by (own := [("_law_k", 9)]) (N := n_law_write) (sc := defScope s_law_write) (by decide +kernel)) (fun _ _ _ _ _ => pg_name (i := 9) sc_law_write.nd rfl (Or.inl rfl)) (fun _ _ _ _ _ => pts_nil) (fun _ _ _ _ _ => (pe_slice (sl_listK K rfl) (pv 6) (po_some (pe_op op_fdiv (pe_op op_mul pe_int (pv 9)) pe_int)) (po_some (pe_op op_fdiv (pe_op op_mul pe_int (pe_op op_add (pv 9) pe_int)) pe_int)))))
      (pss_one (ps_ret (pe_op op_cat (pv 7) (pe_lst (pa_cons (pe_slice sl_list (pv 6) (po_some (pe_op op_fdiv (pe_callB call_lenS rfl (f_len T) (by decide +kernel) (pa_cons (pv 5) pa_nil)) pe_int)) po_none) pa_nil))))))))))))), rfl, ?_⟩
    try dsimp only [cxOf]
    wtm_at "x"
    refine x_ixT ht (kind_at ly) ?_
    wtm_at "x"
    cases ly with
    | add key =>
      obtain ⟨k1, k8, kby⟩ := ok
      refine ite_d (fun _ => ?_) fun z => absurd rfl z
      wtm_at "x"
      refine x_slT ht (by unfold layV; rw [rawV_len]; intro z; have := z.1; unfold HT.sIx at this; simp at this) ?_
      rw [show cutV (layV (Lay.add key)) (some 1) none = iV key from cut_from (k := 1) rfl]
      intro t2 n_t2
      have e_t2 : Ext H (upd H t2 (.tup (iV key))) := Only'.put0 Only'.refl n_t2
      have h_t2 : (upd H t2 (.tup (iV key))) t2 = some (.tup (iV key)) := upd_same
      generalize (upd H t2 (.tup (iV key))) = H1 at *
      have hs1 := SqL.ext e_t2 hs
      wtm_at "x"
      rw [iV_length]
      refine x_rLcRN (k := row.length) (fun t => H t = none) (outAt (.add key 0) row) rfl (by omega) (fun _ => rfl) (fun i H2 Dl hi e2 hD hne Q' k => ?_) fun p ts H2 hp e2 h2 h3 h4 h5 => ?_
      · wtm_at "x"
        refine x_ixL (SqL.ext e2 hs1) (gI_at (by omega) (by omega)) ?_
        wtm_at "x"
        refine x_len (Or.inr (SqT.ext e2 (SqT.of h_t2))) ?_
        wtm_at "x"
        rw [iV_length, fmod_pos (by omega), show (i : Int) % (key.length : Int) = ((i % key.length : Nat) : Int) from rfl]
        have hm := Nat.mod_lt i (show 0 < key.length by omega)
        refine x_ixT (SqT.ext e2 (SqT.of h_t2)) (gI_at (by omega) (by omega)) ?_
        wtm_at "x"
        intro l hl
        refine k l _ (Only'.put0 Only'.refl hl) ?_ (hne l hl) ((e_t2.trans e2).free hl)
        rw [upd_same, add_out key k1 row hi]
        rfl
      · wtm_at "x"
        intro p3 n_p3
        have e_p3 : Ext H2 (upd H2 p3 (.lst [])) := Only'.put0 Only'.refl n_p3
        have h_p3 : (upd H2 p3 (.lst [])) p3 = some (.lst []) := upd_same
        generalize (upd H2 p3 (.lst [])) = H3 at *
        wtm_at "x"
        exact told_end (x := []) ⟨h2, h3, h4, h5, e_t2.trans e2⟩ e_p3 h_p3 (add_end key k1 row) ((e_t2.trans e2).free n_p3) hz q
    | front =>
      refine ite_d (fun z => absurd (show ("front" : Str) = _ from z) (by decide +kernel)) fun _ => ?_
      wtm_at "x"
      refine x_ixT ht (kind_at _) ?_
      wtm_at "x"
      refine ite_d (fun _ => ?_) fun z => absurd rfl z
      wtm_at "x"
      exact ⟨a, row, rfl, hs, hby, hz, q⟩
    | esc e =>
      refine ite_d (fun z => absurd (show ("escape" : Str) = _ from z) (by decide +kernel)) fun _ => ?_
      wtm_at "x"
      refine x_ixT ht (kind_at _) ?_
      wtm_at "x"
      refine ite_d (fun z => absurd (show ("escape" : Str) = _ from z) (by decide +kernel)) fun _ => ?_
      wtm_at "x"
      refine x_ixT ht (kind_at _) ?_
      wtm_at "x"
      refine ite_d (fun _ => ?_) fun z => absurd rfl z
      wtm_at "x"
      refine x_rLcR (k := 4) (fun j => V.int ((e + (j : Int)) % 256)) rfl (by decide) (fun _ => rfl) (fun j H1 hj e1 Q' k => ?_) fun mk H1 hmk e1 h1 => ?_
      · wtm_at "x"
        refine x_ixT (SqT.ext e1 ht) (ix_arg (k := "escape") (xs := [e]) rfl) ?_
        wtm_at "x"
        exact k _ Only'.refl
      · rw [ints_iV] at h1
        have em : ((List.range 4).map fun j : Nat => (e + (j : Int)) % 256) = [(e + 0) % 256, (e + 1) % 256, (e + 2) % 256, (e + 3) % 256] := rfl
        rw [em, Int.add_zero] at h1
        have ha : ∀ (j : Nat) (z : Int) (H2 : Hp), Ext H1 H2 → [e % 256, (e + 1) % 256, (e + 2) % 256, (e + 3) % 256][j]? = some z → ∀ Q' : VK, Q' (.int z) H2 → rIxL K (.ref mk) (.int (j : Int)) H2 Q' := fun j z H2 e2 hz Q' k => x_ixL (SqL.of (e2 mk _ h1 (by simp))) (at_of rfl (iV_at hz)) k
        wtm_at "x"
        refine x_disp ?_
        intro d n_d
        have e_d : Ext H1 (upd H1 d (.dK [])) := Only'.put0 Only'.refl n_d
        have h_d : (upd H1 d (.dK [])) d = some (.dK []) := upd_same
        generalize (upd H1 d (.dK [])) = H2 at *
        refine x_pcons ?_
        wtm_at "x"
        refine ha 0 _ _ e_d rfl _ ?_
        wtm_at "x"
        refine ha 1 _ _ e_d rfl _ ?_
        wtm_at "x"
        refine ha 2 _ _ e_d rfl _ ?_
        wtm_at "x"
        intro l0 n_l0
        have e_l0 : Ext H2 (upd H2 l0 (.lst [V.int ((e + 1) % 256), V.int ((e + 2) % 256)])) := Only'.put0 Only'.refl n_l0
        have h_l0 : (upd H2 l0 (.lst [V.int ((e + 1) % 256), V.int ((e + 2) % 256)])) l0 = some (.lst [V.int ((e + 1) % 256), V.int ((e + 2) % 256)]) := upd_same
        generalize (upd H2 l0 (.lst [V.int ((e + 1) % 256), V.int ((e + 2) % 256)])) = H3 at *
        refine x_pcons ?_
        wtm_at "x"
        refine ha 1 _ _ (e_d.trans e_l0) rfl _ ?_
        wtm_at "x"
        refine ha 1 _ _ (e_d.trans e_l0) rfl _ ?_
        wtm_at "x"
        refine ha 3 _ _ (e_d.trans e_l0) rfl _ ?_
        wtm_at "x"
        intro l1 n_l1
        have e_l1 : Ext H3 (upd H3 l1 (.lst [V.int ((e + 1) % 256), V.int ((e + 3) % 256)])) := Only'.put0 Only'.refl n_l1
        have h_l1 : (upd H3 l1 (.lst [V.int ((e + 1) % 256), V.int ((e + 3) % 256)])) l1 = some (.lst [V.int ((e + 1) % 256), V.int ((e + 3) % 256)]) := upd_same
        generalize (upd H3 l1 (.lst [V.int ((e + 1) % 256), V.int ((e + 3) % 256)])) = H4 at *
        refine x_pnil ?_
        have hd4 := (e_l0.trans e_l1) d _ h_d (by simp)
        refine ⟨hd4, [((Sum.inl (e % 256) : Key), V.ref l0), ((Sum.inl ((e + 1) % 256) : Key), V.ref l1)], rfl, by simp, ?_⟩
        have e5 : Ext H1 (upd H4 d (.dK (mergeK [] [((Sum.inl (e % 256) : Key), V.ref l0), ((Sum.inl ((e + 1) % 256) : Key), V.ref l1)]))) := ((e_d.trans e_l0).trans e_l1).put0 n_d
        have h_d5 := upd_same (H := H4) (a := d) (o := .dK (mergeK [] [((Sum.inl (e % 256) : Key), V.ref l0), ((Sum.inl ((e + 1) % 256) : Key), V.ref l1)]))
        have h05 : (upd H4 d (.dK (mergeK [] [((Sum.inl (e % 256) : Key), V.ref l0), ((Sum.inl ((e + 1) % 256) : Key), V.ref l1)]))) l0 = some (.lst (iV [(e + 1) % 256, (e + 2) % 256])) := upd_get (Ne.symm (ne_of_none h_d n_l0)) (e_l1 l0 _ h_l0 (by simp))
        have h15 : (upd H4 d (.dK (mergeK [] [((Sum.inl (e % 256) : Key), V.ref l0), ((Sum.inl ((e + 1) % 256) : Key), V.ref l1)]))) l1 = some (.lst (iV [(e + 1) % 256, (e + 3) % 256])) := upd_get (Ne.symm (ne_of_none (e_l0 d _ h_d (by simp)) n_l1)) h_l1
        have tv := fun k => two_val (e % 256) ((e + 1) % 256) k (V.ref l0) (V.ref l1)
        generalize mergeK [] [((Sum.inl (e % 256) : Key), V.ref l0), ((Sum.inl ((e + 1) % 256) : Key), V.ref l1)] = kvs at *
        generalize upd H4 d (.dK kvs) = H5 at *
        have hs5 := SqL.ext (e1.trans e5) hs
        wtm_at "x"
        refine x_rLcLN (fun t => H t = none) (outAt (.esc e) row) hs5 (by rw [iV_length]; omega) (fun _ => rfl) (fun i x H6 Dl hi e6 hD hne Q' k => ?_) fun p ts H6 hp e6 h2 h3 h4 h5 => ?_
        · obtain ⟨z, hz1, rfl⟩ := iV_get hi
          have hil : i < row.length := (List.getElem?_eq_some_iff.mp hz1).1
          have ho := esc_out e row hil
          rw [gI_nat hz1] at ho
          unfold escOut at ho
          wtm_at "x"
          refine x_rDGet2 (e6 d _ h_d5 (by simp)) ?_
          wtm_at "x"
          intro b n_b
          have e_b : Ext H6 (upd H6 b (.lst [V.int z])) := Only'.put0 Only'.refl n_b
          have h_b : (upd H6 b (.lst [V.int z])) b = some (.lst [V.int z]) := upd_same
          generalize (upd H6 b (.lst [V.int z])) = H7 at *
          refine ⟨_, DGet.k (k := (Sum.inl z : Key)) ((e6.trans e_b) d _ h_d5 (by simp)), ?_⟩
          rw [tv]
          have hold : ∀ (l : Addr) (o : HO), H5 l = some o → l ≠ Dl := fun l o hl y => by
            rw [y, hD] at hl
            cases hl
          by_cases c1 : z = (e + 1) % 256
          · rw [if_pos c1]
            rw [if_neg (by omega), if_pos c1] at ho
            exact k l1 _ e_b (by rw [ho]; exact (e6.trans e_b) l1 _ h15 (by simp)) (hold _ _ h15) (((e1.trans e_d).trans e_l0).free n_l1)
          · rw [if_neg c1]
            by_cases c0 : z = e % 256
            · rw [if_pos c0]
              rw [if_pos c0] at ho
              exact k l0 _ e_b (by rw [ho]; exact (e6.trans e_b) l0 _ h05 (by simp)) (hold _ _ h05) ((e1.trans e_d).free n_l0)
            · rw [if_neg c0]
              rw [if_neg c0, if_neg c1] at ho
              exact k b _ e_b (by rw [ho]; exact h_b) (hne b n_b) (((e1.trans e5).trans e6).free n_b)
        · rw [iV_length] at h3
          wtm_at "x"
          intro p3 n_p3
          have e_p3 : Ext H6 (upd H6 p3 (.lst [])) := Only'.put0 Only'.refl n_p3
          have h_p3 : (upd H6 p3 (.lst [])) p3 = some (.lst []) := upd_same
          generalize (upd H6 p3 (.lst [])) = H7 at *
          wtm_at "x"
          exact told_end (x := []) ⟨h2, h3, h4, h5, (e1.trans e5).trans e6⟩ e_p3 h_p3 (esc_end e row) (((e1.trans e5).trans e6).free n_p3) hz q
    | runs =>
      refine ite_d (fun z => absurd (show ("runs" : Str) = _ from z) (by decide +kernel)) fun _ => ?_
      wtm_at "x"
      refine x_ixT ht (kind_at _) ?_
      wtm_at "x"
      refine ite_d (fun z => absurd (show ("runs" : Str) = _ from z) (by decide +kernel)) fun _ => ?_
      wtm_at "x"
      refine x_ixT ht (kind_at _) ?_
      wtm_at "x"
      refine ite_d (fun z => absurd (show ("runs" : Str) = _ from z) (by decide +kernel)) fun _ => ?_
      wtm_at "x"
      refine x_ixT ht (kind_at _) ?_
      wtm_at "x"
      refine ite_d (fun _ => ?_) fun z => absurd rfl z
      wtm_at "x"
      exact ⟨a, row, rfl, hs, hby, hz, q⟩
    | chunks n =>
      refine ite_d (fun z => absurd (show ("chunks" : Str) = _ from z) (by decide +kernel)) fun _ => ?_
      wtm_at "x"
      refine x_ixT ht (kind_at _) ?_
      wtm_at "x"
      refine ite_d (fun z => absurd (show ("chunks" : Str) = _ from z) (by decide +kernel)) fun _ => ?_
      wtm_at "x"
      refine x_ixT ht (kind_at _) ?_
      wtm_at "x"
      refine ite_d (fun z => absurd (show ("chunks" : Str) = _ from z) (by decide +kernel)) fun _ => ?_
      wtm_at "x"
      refine x_ixT ht (kind_at _) ?_
      wtm_at "x"
      refine ite_d (fun z => absurd (show ("chunks" : Str) = _ from z) (by decide +kernel)) fun _ => ?_
      wtm_at "x"
      refine x_ixT ht (kind_at _) ?_
      wtm_at "x"
      obtain ⟨n1, n2⟩ := ok
      obtain ⟨m, rfl⟩ : ∃ m : Nat, n = (m : Int) := ⟨n.toNat, by omega⟩
      intro p n_p
      have e_p : Ext H (upd H p (.tup [V.str "chunks", V.str "checks"])) := Only'.put0 Only'.refl n_p
      have h_p : (upd H p (.tup [V.str "chunks", V.str "checks"])) p = some (.tup [V.str "chunks", V.str "checks"]) := upd_same
      generalize (upd H p (.tup [V.str "chunks", V.str "checks"])) = H1 at *
      have ht1 := SqT.ext e_p ht
      refine x_inS (["chunks", "checks"] : List Str) (Or.inr (SqT.of h_p)) ?_
      wtm_at "x"
      refine ite_d (fun _ => ?_) fun z => absurd (show ("chunks" : Str) ∈ (["chunks", "checks"] : List Str) from by decide +kernel) z
      wtm_at "x"
      refine x_ixT ht1 (kind_at _) ?_
      wtm_at "x"
      refine x_ixT ht1 (ix_arg (k := "chunks") (xs := [(m : Int)]) rfl) ?_
      wtm_at "x"
      exact ⟨a, row, true, m, rfl, SqL.ext e_p hs, hby, hz, by omega, by omega, q.to e_p⟩
    | checks n =>
      refine ite_d (fun z => absurd (show ("checks" : Str) = _ from z) (by decide +kernel)) fun _ => ?_
      wtm_at "x"
      refine x_ixT ht (kind_at _) ?_
      wtm_at "x"
      refine ite_d (fun z => absurd (show ("checks" : Str) = _ from z) (by decide +kernel)) fun _ => ?_
      wtm_at "x"
      refine x_ixT ht (kind_at _) ?_
      wtm_at "x"
      refine ite_d (fun z => absurd (show ("checks" : Str) = _ from z) (by decide +kernel)) fun _ => ?_
      wtm_at "x"
      refine x_ixT ht (kind_at _) ?_
      wtm_at "x"
      refine ite_d (fun z => absurd (show ("checks" : Str) = _ from z) (by decide +kernel)) fun _ => ?_
      wtm_at "x"
      refine x_ixT ht (kind_at _) ?_
      wtm_at "x"
      obtain ⟨n1, n2⟩ := ok
      obtain ⟨m, rfl⟩ : ∃ m : Nat, n = (m : Int) := ⟨n.toNat, by omega⟩
      intro p n_p
      have e_p : Ext H (upd H p (.tup [V.str "chunks", V.str "checks"])) := Only'.put0 Only'.refl n_p
      have h_p : (upd H p (.tup [V.str "chunks", V.str "checks"])) p = some (.tup [V.str "chunks", V.str "checks"]) := upd_same
      generalize (upd H p (.tup [V.str "chunks", V.str "checks"])) = H1 at *
      have ht1 := SqT.ext e_p ht
      refine x_inS (["chunks", "checks"] : List Str) (Or.inr (SqT.of h_p)) ?_
      wtm_at "x"
      refine ite_d (fun _ => ?_) fun z => absurd (show ("checks" : Str) ∈ (["chunks", "checks"] : List Str) from by decide +kernel) z
      wtm_at "x"
      refine x_ixT ht1 (kind_at _) ?_
      wtm_at "x"
      refine x_ixT ht1 (ix_arg (k := "checks") (xs := [(m : Int)]) rfl) ?_
      wtm_at "x"
      exact ⟨a, row, false, m, rfl, SqL.ext e_p hs, hby, hz, by omega, by omega, q.to e_p⟩
    | signs =>
      refine ite_d (fun z => absurd (show ("signs" : Str) = _ from z) (by decide +kernel)) fun _ => ?_
      wtm_at "x"
      refine x_ixT ht (kind_at _) ?_
      wtm_at "x"
      refine ite_d (fun z => absurd (show ("signs" : Str) = _ from z) (by decide +kernel)) fun _ => ?_
      wtm_at "x"
      refine x_ixT ht (kind_at _) ?_
      wtm_at "x"
      refine ite_d (fun z => absurd (show ("signs" : Str) = _ from z) (by decide +kernel)) fun _ => ?_
      wtm_at "x"
      refine x_ixT ht (kind_at _) ?_
      wtm_at "x"
      refine ite_d (fun z => absurd (show ("signs" : Str) = _ from z) (by decide +kernel)) fun _ => ?_
      wtm_at "x"
      refine x_ixT ht (kind_at _) ?_
      wtm_at "x"
      intro p n_p
      have e_p : Ext H (upd H p (.tup [V.str "chunks", V.str "checks"])) := Only'.put0 Only'.refl n_p
      have h_p : (upd H p (.tup [V.str "chunks", V.str "checks"])) p = some (.tup [V.str "chunks", V.str "checks"]) := upd_same
      generalize (upd H p (.tup [V.str "chunks", V.str "checks"])) = H1 at *
      have ht1 := SqT.ext e_p ht
      refine x_inS (["chunks", "checks"] : List Str) (Or.inr (SqT.of h_p)) ?_
      wtm_at "x"
      refine ite_d (fun z => absurd (show ("signs" : Str) ∈ (["chunks", "checks"] : List Str) from z) (by decide +kernel)) fun _ => ?_
      wtm_at "x"
      refine ⟨a, row, 8, rfl, SqL.ext e_p hs, by decide, by omega, fun H2 bt e2 hbt0 hbt => ?_⟩
      wtm_at "x"
      intro z n_z
      have e_z : Ext H2 (upd H2 z (.lst [V.int 0])) := Only'.put0 Only'.refl n_z
      have h_z : (upd H2 z (.lst [V.int 0])) z = some (.lst [V.int 0]) := upd_same
      generalize (upd H2 z (.lst [V.int 0])) = H3 at *
      have hbt3 := e_z bt _ hbt (by simp)
      wtm_at "x"
      refine x_rep1 h_z (by omega) (by omega) ?_
      have hpad : ((-((iV (bitsOf 8 row)).length : Int)) % 6).toNat = padOf row := by
        rw [iV_length, bitsOf_len]
        unfold padOf
        omega
      rw [hpad]
      intro z2 n_z2
      have e_z2 : Ext H3 (upd H3 z2 (.lst (List.replicate (padOf row) (V.int 0)))) := Only'.put0 Only'.refl n_z2
      have h_z2 : (upd H3 z2 (.lst (List.replicate (padOf row) (V.int 0)))) z2 = some (.lst (List.replicate (padOf row) (V.int 0))) := upd_same
      generalize (upd H3 z2 (.lst (List.replicate (padOf row) (V.int 0)))) = H4 at *
      have hbl : (bitsOf 8 row).length = 8 * row.length := bitsOf_len 8 row
      have hpl : padOf row < 6 := Nat.mod_lt _ (by decide)
      refine x_cat (e_z2 bt _ hbt3 (by simp)) h_z2 (by rw [iV_length, List.length_replicate, hbl, sizeLine_eq]; omega) ?_
      have er : iV (bitsOf 8 row) ++ List.replicate (padOf row) (V.int 0) = iV (bitsOf 8 row ++ List.replicate (padOf row) 0) := by
        unfold iV
        rw [List.map_append, List.map_replicate]
      rw [er]
      intro z3 n_z3
      have e_z3 : Ext H4 (upd H4 z3 (.lst (iV (bitsOf 8 row ++ List.replicate (padOf row) 0)))) := Only'.put0 Only'.refl n_z3
      have h_z3 : (upd H4 z3 (.lst (iV (bitsOf 8 row ++ List.replicate (padOf row) 0)))) z3 = some (.lst (iV (bitsOf 8 row ++ List.replicate (padOf row) 0))) := upd_same
      generalize (upd H4 z3 (.lst (iV (bitsOf 8 row ++ List.replicate (padOf row) 0)))) = H5 at *
      wtm_at "x"
      refine ⟨z3, _, 6, rfl, SqL.of h_z3, by decide, by decide, by rw [List.length_append, List.length_replicate, hbl]; omega, fun H6 gt e6 hgt0 hgt => ?_⟩
      have hbits : ∀ x, x ∈ bitsOf 8 row ++ List.replicate (padOf row) 0 → x = 0 ∨ x = 1 := fun x hx => by
        rcases List.mem_append.mp hx with h | h
        · exact bit_of h
        · exact Or.inl (List.eq_of_mem_replicate h)
      have hG : ∀ g, g ∈ groupsOf 6 (bitsOf 8 row ++ List.replicate (padOf row) 0) → 0 ≤ g ∧ g < 64 := fun g hg => grp_in hbits hg
      have hGl : (groupsOf 6 (bitsOf 8 row ++ List.replicate (padOf row) 0)).length ≤ 100000 := by
        unfold groupsOf
        rw [List.length_map, List.length_range, List.length_append, List.length_replicate, hbl]
        omega
      have hS : lawSigns row = (groupsOf 6 (bitsOf 8 row ++ List.replicate (padOf row) 0)).map signOf := rfl
      generalize groupsOf 6 (bitsOf 8 row ++ List.replicate (padOf row) 0) = G at *
      have e16 : Ext H1 H6 := (((e2.trans e_z).trans e_z2).trans e_z3).trans e6
      wtm_at "x"
      refine x_rLcL (fun i => V.int (signOf (gI G (i : Int)))) (SqL.of hgt) (by rw [iV_length, sizeLine_eq]; omega) (fun _ => rfl) (fun i x H7 hi e7 Q' k => ?_) fun sg H7 hsg e7 h7 => ?_
      · obtain ⟨g, hg, rfl⟩ := iV_get hi
        obtain ⟨g0, g1⟩ := hG g (List.mem_of_getElem? hg)
        wtm_at "x"
        refine ⟨rfl, fun H8 r e8 hr0 hr8 => ?_⟩
        wtm_at "x"
        refine x_ixL (SqL.of hr8) (gI_at g0 (by show g < (64 : Int); exact g1)) ?_
        rw [← gI_nat hg]
        exact k _ e8
      · rw [ints_iV, iV_length, map_gI signOf G, ← hS] at h7
        have hs7 := SqL.ext ((e_p.trans e16).trans e7) hs
        have hbt7 := ((((e_z.trans e_z2).trans e_z3).trans e6).trans e7) bt _ hbt (by simp)
        have hrows := signs_rows row hby
        generalize lawSigns row = S at *
        wtm_at "x"
        rw [iV_length]
        refine x_rLcRN (k := row.length) (fun t => H t = none) (sCut S) rfl (by omega) (fun _ => rfl) (fun i H8 Dl hi e8 hD hne Q' k => ?_) fun p8 ts H8 hp8 e8 h8 h9 h10 h11 => ?_
        · have h78 := e8 sg _ h7 (by simp)
          wtm_at "x"
          rw [cut_both (i := 8 * i / 6) (k := 8 * (i + 1) / 6) (by omega) (by omega)]
          intro l hl
          refine k l _ (Only'.put0 Only'.refl hl) ?_ (hne l hl) ((((e_p.trans e16).trans e7).trans e8).free hl)
          rw [upd_same]
          unfold sCut iV
          rw [List.map_take, List.map_drop]
        · have h78 := e8 sg _ h7 (by simp)
          have hbt8 := e8 bt _ hbt7 (by simp)
          wtm_at "x"
          rw [cut_from (k := 8 * row.length / 6) (by rw [iV_length, hbl]; omega)]
          have ed : (iV S).drop (8 * row.length / 6) = iV (S.drop (8 * row.length / 6)) := by
            unfold iV
            rw [List.map_drop]
          rw [ed]
          intro p3 n_p3
          have e_p3 : Ext H8 (upd H8 p3 (.lst (iV (S.drop (8 * row.length / 6))))) := Only'.put0 Only'.refl n_p3
          have h_p3 : (upd H8 p3 (.lst (iV (S.drop (8 * row.length / 6))))) p3 = some (.lst (iV (S.drop (8 * row.length / 6)))) := upd_same
          generalize (upd H8 p3 (.lst (iV (S.drop (8 * row.length / 6))))) = H9 at *
          wtm_at "x"
          refine told_end2 ⟨h8, h9, h10, h11, ((e_p.trans e16).trans e7).trans e8⟩ e_p3 h_p3 ?_ ((((e_p.trans e16).trans e7).trans e8).free n_p3) hz q
          exact hrows
theorem ok_law_written (T : Tx K mg) : DefOk P w K mg base 4 (He.ga K "_law_written") ["_law_layers_here", "_law_row_here"] (spOwnAll K) := by
  have D_law_write := ok_law_write (P := P) (w := w) (base := base) T
  refine def_ok (N := n_law_written) (fn_law_written T) sc_law_written (fun _ _ _ _ _ _ us hl => match us, hl with | [_, _], _ => rfl) (fun vs H Q E h => ?_) (fun cdv A outer s H vs Q E hr h => ?_)
  · obtain ⟨a, r, ts, lays, row, rfl, _⟩ := h
    rfl
  · obtain ⟨a, r, ts, lays, row, rfl, ha, hl, hat, oks, hr0, hby, hz, q⟩ := h
    refine ⟨_, [_, _, _, _, _], (pss_cons (ps_for (passes_of rfl) rfl (pi_list (pv 0)) (pg_name (i := 2) sc_law_written.nd rfl (Or.inl rfl)) (pss_cons (ps_set (i := 3) sc_law_written.nd rfl (Or.inl rfl) (pe_lst pa_nil))
      (pss_cons (ps_for (passes_of rfl) rfl (pi_list (pe_fn D_law_write (g_law_write T) (hr.mono (by first | decide | omega)) (fun _ => passE) (pa_cons (pv 2) (pa_cons (pv 1) pa_nil)))) (pg_name (i := 4) sc_law_written.nd rfl (Or.inl rfl)) (pss_one (ps_expr (pe_bm PySem.F.plainAttrs_list PySem.F.slot_list_extend PySem.F.type_list_extend mt_extend (pv 3) (pa_cons (pv 4) pa_nil)))))
      (pss_one (ps_set (i := 1) sc_law_written.nd rfl (Or.inl rfl) (pv 3))))))
      (pss_one (ps_ret (pv 1)))), rfl, ?_⟩
    try dsimp only [cxOf]
    wtm_at "x"
    refine x_rForL ha (fun i σ H' => ∃ r' v2 v3 v4, σ = [some (.ref a), some (.ref r'), v2, v3, v4] ∧ SqL K H' r' (iV (written (lays.take i) row)) ∧ Ext H H' ∧ ((r' = r ∧ written (lays.take i) row = row) ∨ H' r' = some (.lst (iV (written (lays.take i) row))))) ⟨r, _, _, _, rfl, by rw [List.take_zero, written_nil]; exact hr0, Only'.refl, Or.inl ⟨rfl, by rw [List.take_zero, written_nil]⟩⟩ (fun i σ H' _ p => ?_) ?_ ?_
    · obtain ⟨r', v2, v3, v4, _, _, e, _⟩ := p
      exact SqL.ext e ha
    · rintro i x σ H' hi ⟨r', v2, v3, v4, rfl, hr1, e, _⟩
      rw [List.getElem?_map] at hi
      cases ht : ts[i]? with
      | none => rw [ht] at hi; cases hi
      | some t =>
        rw [ht] at hi
        have hx : V.ref t = x := Option.some.inj hi
        subst hx
        have hil : i < lays.length := by
          rw [← hl]
          exact (List.getElem?_eq_some_iff.mp ht).1
        have hly := List.getElem?_eq_getElem hil
        generalize lays[i] = ly at hly
        have hst : written (lays.take (i + 1)) row = wfin (newW ly) (written (lays.take i) row) := by
          rw [take_more hly, written_snoc]
        have hz1 := hz i (by omega)
        have hz2 := hz (i + 1) (by omega)
        have hb1 : Bys (written (lays.take i) row) := written_by (fun l h => oks l (List.mem_of_mem_take h)) hby
        rw [hst, ← outs_flat] at hz2
        rw [hst, ← outs_flat]
        generalize written (lays.take i) row = row1 at *
        wtm_at "x"
        intro f n_f
        have e_f : Ext H' (upd H' f (.lst [])) := Only'.put0 Only'.refl n_f
        have h_f : (upd H' f (.lst [])) f = some (.lst []) := upd_same
        generalize (upd H' f (.lst [])) = H1 at *
        wtm_at "x"
        refine ⟨t, r', ly, row1, rfl, SqT.ext (e.trans e_f) (hat i t ly ht hly), oks ly (List.mem_of_getElem? hly), SqL.ext e_f hr1, hb1, hz1, fun H2 rr us e2 hrr0 hrr hrows hus => ?_⟩
        wtm_at "x"
        generalize outs (newW ly) row1 = rows at *
        have hrf : rr ≠ f := Ne.symm (ne_of_none h_f hrr0)
        have huf : ∀ u, u ∈ us → u ≠ f := fun u hu => Ne.symm (ne_of_none h_f (hus u hu))
        refine x_rForL (SqL.of hrr) (fun j σ H3 => ∃ v4, σ = [some (.ref a), some (.ref r'), some (.ref t), some (.ref f), v4] ∧ H3 f = some (.lst (iV ((rows.take j).flatten))) ∧ Ext H' H3 ∧ RowsIn H3 us rows ∧ H3 rr = some (.lst (us.map V.ref))) ⟨_, rfl, e2 f _ h_f (by simp), e_f.trans e2, hrows, hrr⟩ (fun j σ H3 _ p => ?_) ?_ ?_
        · obtain ⟨v4, _, _, _, _, h⟩ := p
          exact SqL.of h
        · rintro j x σ H3 hj ⟨v4, rfl, h1, e3, hr3, hrr3⟩
          rw [List.getElem?_map] at hj
          cases hu : us[j]? with
          | none => rw [hu] at hj; cases hj
          | some u =>
            rw [hu] at hj
            have hx : V.ref u = x := Option.some.inj hj
            subst hx
            have hjl : j < rows.length := by
              rw [← hr3.len]
              exact (List.getElem?_eq_some_iff.mp hu).1
            have hrw := List.getElem?_eq_getElem hjl
            generalize rows[j] = one at hrw
            have hone := hr3.at_ j u one hu hrw
            have hfl : (rows.take (j + 1)).flatten = (rows.take j).flatten ++ one := by
              rw [take_more hrw, List.flatten_append]
              show _ ++ (one ++ []) = _
              rw [List.append_nil]
            have hle : ((rows.take (j + 1)).flatten).length ≤ 4000 := by
              have h2 : rows.flatten = (rows.take (j + 1)).flatten ++ (rows.drop (j + 1)).flatten := by rw [← List.flatten_append, List.take_append_drop]
              rw [h2, List.length_append] at hz2
              omega
            rw [hfl, List.length_append] at hle
            wtm_at "x"
            refine x_extend h1 hone (by rw [iV_length, iV_length, sizeLine_eq]; omega) ?_
            wtm_at "x"
            refine ⟨_, rfl, ?_, e3.put0 n_f, hr3.put huf, upd_get hrf hrr3⟩
            rw [upd_same, hfl, iV_append]
        · rintro σ H3 ⟨v4, rfl, h1, e3, hr3, hrr3⟩
          rw [List.length_map, hr3.len, List.take_length] at h1
          wtm_at "x"
          exact ⟨f, _, _, _, rfl, SqL.of h1, e.trans e3, Or.inr h1⟩
    · rintro σ H' ⟨r', v2, v3, v4, rfl, hr1, e, hor⟩
      rw [List.length_map, hl, List.take_length] at hr1 hor
      wtm_at "x"
      exact q H' r' e hr1 hor
end
end Flow

namespace Flow
open PySem PySem.Spec PyProof.Rows L2
/-! ### a stream that is changed -/
def spSpoiled (K : PySem.W.Frag) : Sp := fun vs H Q _ => ∃ (a : Addr) (s : Row) (k : Int) (rw_ : Addr) (row : Row), vs = [.ref a, .int k, .ref rw_] ∧ SqL K H a (iV s) ∧ H rw_ = some (.lst (iV row)) ∧ Bys row ∧ row.length ≤ 8000000 ∧
  ∀ (row' : Row) (H' : Hp) (r : Addr), Bys row' → row'.length ≤ row.length + 3 → Ext H H' → H' r = some (.lst (iV row')) → Q (.ref r) H'
theorem bys_take {r : Row} (h : Bys r) (n : Nat) : Bys (r.take n) := fun x hx => h x (List.mem_of_mem_take hx)
theorem bys_drop {r : Row} (h : Bys r) (n : Nat) : Bys (r.drop n) := fun x hx => h x (List.mem_of_mem_drop hx)
theorem cutI_to (r : Row) (n : Nat) : cutV (iV r) none (some (n : Int)) = iV (r.take n) := by
  rw [cut_to rfl]
  unfold iV
  rw [← List.map_take]
theorem cutI_from (r : Row) {i : Int} (n : Nat) (h : i = (n : Int)) : cutV (iV r) (some i) none = iV (r.drop n) := by
  rw [cut_from h]
  unfold iV
  rw [← List.map_drop]
/-- the last part, from the place ahead -/
theorem cutI_back (r : Row) (n : Nat) : ∃ k, cutV (iV r) (some ((n : Int) - 1)) none = iV (r.drop k) ∧ n ≤ k + 1 := by
  by_cases h : n = 0
  · subst h
    refine ⟨r.length - 1, ?_, by omega⟩
    have e := cut_fromN (xs := iV r) (k := 1) (Nat.le_refl 1)
    rw [iV_length] at e
    have e2 : ((0 : Nat) : Int) - 1 = -((1 : Nat) : Int) := by omega
    rw [e2, e]
    unfold iV
    rw [← List.map_drop]
  · exact ⟨n - 1, cutI_from r (n - 1) (by omega), by omega⟩
section
variable {P : Program} {w : World} {K : PySem.W.Frag} {mg : Str → Option Value} {base : Heap}
theorem ok_law_spoiled (T : Tx K mg) : DefOk P w K mg base 3 (He.ga K "_law_spoiled") ["_law_script", "_law_k", "_law_row_here"] (spSpoiled K) := by
  have D_law_mix := ok_law_mix (P := P) (w := w) (base := base) T
  refine def_ok (N := n_law_spoiled) (fn_law_spoiled T) sc_law_spoiled (fun _ _ _ _ _ _ us hl => match us, hl with | [_, _, _], _ => rfl) (fun vs H Q E h => ?_) (fun cdv A outer s H vs Q E hr h => ?_)
  · obtain ⟨a, s, k, rw_, row, rfl, _⟩ := h
    rfl
  · obtain ⟨a, s, k, rw_, row, rfl, hs, hrw, hby, hz, q⟩ := h
    refine ⟨_, [_, _, _, _, _, _, _, _], (pss_cons (ps_for (passes_of rfl) rfl (pi_range1 rfl (f_range T) (pa_cons (pe_op op_mod (pe_fn D_law_mix (g_law_mix T) (hr.mono (by first | decide | omega)) (fun _ => passE) (pa_cons (pv 0) (pa_cons (pv 1) pa_nil))) pe_int) pa_nil)) (pg_name (i := 3) sc_law_spoiled.nd rfl (Or.inl rfl)) (pss_cons (ps_set (i := 4) sc_law_spoiled.nd rfl (Or.inl rfl) (pe_fn D_law_mix (g_law_mix T) (hr.mono (by first | decide | omega)) (fun _ => passE) (pa_cons (pv 0) (pa_cons (pe_op op_add (pe_op op_add (pv 1) pe_int) (pv 3)) pa_nil))))
      (pss_cons (ps_set (i := 5) sc_law_spoiled.nd rfl (Or.inl rfl) (pe_op op_modN (pv 4) (pe_op op_add (pe_callB call_lenS rfl (f_len T) (by decide +kernel) (pa_cons (pv 2) pa_nil)) pe_int)))
      (pss_cons (ps_set (i := 6) sc_law_spoiled.nd rfl (Or.inl rfl) (pe_ix ix_list (pe_lst (pa_cons pe_int (pa_cons pe_int (pa_cons pe_int (pa_cons pe_int (pa_cons (pe_op op_mod (pe_op op_fdiv (pv 4) pe_int) pe_int) (pa_cons (pe_op op_mod (pe_op op_fdiv (pv 4) pe_int) pe_int) pa_nil))))))) (pe_op op_mod (pe_op op_fdiv (pv 4) pe_int) pe_int) (fun _ _ => rfl)))
      (pss_cons (ps_set (i := 7) sc_law_spoiled.nd rfl (Or.inl rfl) (pe_op op_mod (pe_op op_fdiv (pv 4) pe_int) pe_int))
      (pss_one (ps_if (pt_cmpR op_lt (pv 7) pe_int (nomark _)) (pss_one (ps_set (i := 2) sc_law_spoiled.nd rfl (Or.inl rfl) (pe_op op_cat (pe_op op_cat (pe_slice sl_list (pv 2) po_none (po_some (pv 5))) (pe_lst (pa_cons (pv 6) pa_nil))) (pe_slice sl_list (pv 2) (po_some (pe_op op_add (pv 5) pe_int)) po_none)))) (pss_one (ps_set (i := 2) sc_law_spoiled.nd rfl (Or.inl rfl) (pe_ix ix_list (pe_lst (pa_cons (pe_op op_cat (pe_slice sl_list (pv 2) po_none (po_some (pv 5))) (pe_slice sl_list (pv 2) (po_some (pe_op op_add (pv 5) pe_int)) po_none)) (pa_cons (pe_op op_cat (pe_op op_cat (pe_slice sl_list (pv 2) po_none (po_some (pv 5))) (pe_lst (pa_cons (pv 6) pa_nil))) (pe_slice sl_list (pv 2) (po_some (pv 5)) po_none)) (pa_cons (pe_slice sl_list (pv 2) po_none (po_some (pv 5))) (pa_cons (pe_op op_cat (pe_slice sl_list (pv 2) po_none (po_some (pv 5))) (pe_slice sl_list (pv 2) (po_some (pe_op op_sub (pv 5) pe_int)) po_none)) pa_nil))))) (pe_op op_sub (pv 7) pe_int) (fun _ _ => rfl)))))))))))
      (pss_one (ps_ret (pv 2)))), rfl, ?_⟩
    try dsimp only [cxOf]
    wtm_at "x"
    refine ⟨a, s, k, rfl, hs, ?_⟩
    have m0 := lmix_in s k
    wtm_at "x"
    refine x_rForR1 (k := (lmix s k % 3).toNat) (by omega) (by omega) (fun i σ H' => ∃ (ri : Row) (p : Addr) (v3 v4 v5 v6 v7 : Option V), σ = [some (.ref a), some (.int k), some (.ref p), v3, v4, v5, v6, v7] ∧ H' p = some (.lst (iV ri)) ∧ Ext H H' ∧ Bys ri ∧ ri.length ≤ row.length + i)
      ⟨row, rw_, none, none, none, none, none, rfl, hrw, Only'.refl, hby, Nat.le_refl _⟩ ?_ ?_
    · rintro i σ H0 hi ⟨ri, p, v3, v4, v5, v6, v7, rfl, hp, e0, byi, hlen⟩
      wtm_at "x"
      refine ⟨a, s, _, rfl, SqL.ext e0 hs, ?_⟩
      have mm := lmix_in s (k + 1 + (i : Int))
      generalize lmix s (k + 1 + (i : Int)) = nn at *
      wtm_at "x"
      have emod : nn.fmod ((((iV ri).length : Nat) : Int) + 1) = nn % ((ri.length : Int) + 1) := by rw [iV_length, fmod_pos (by omega)]
      rw [emod]
      have i0 := Int.emod_nonneg nn (show ((ri.length : Int) + 1) ≠ 0 by omega)
      have i1 := Int.emod_lt_of_pos nn (show (0 : Int) < (ri.length : Int) + 1 by omega)
      obtain ⟨at_, hat⟩ : ∃ at_ : Nat, nn % ((ri.length : Int) + 1) = (at_ : Int) := ⟨(nn % ((ri.length : Int) + 1)).toNat, by omega⟩
      rw [hat] at i0 i1 ⊢
      wtm_at "x"
      intro pb n_pb
      have e_pb : Ext H0 (upd H0 pb (.lst [V.int 0, V.int 1, V.int 45, V.int 255, V.int (nn / 1024 % 256), V.int (nn / 1024 % 256)])) := Only'.put0 Only'.refl n_pb
      have h_pb : (upd H0 pb (.lst [V.int 0, V.int 1, V.int 45, V.int 255, V.int (nn / 1024 % 256), V.int (nn / 1024 % 256)])) pb = some (.lst [V.int 0, V.int 1, V.int 45, V.int 255, V.int (nn / 1024 % 256), V.int (nn / 1024 % 256)]) := upd_same
      generalize (upd H0 pb (.lst [V.int 0, V.int 1, V.int 45, V.int 255, V.int (nn / 1024 % 256), V.int (nn / 1024 % 256)])) = H1 at *
      have hp1 := e_pb p _ hp (by simp)
      wtm_at "x"
      refine x_ixI [0, 1, 45, 255, nn / 1024 % 256, nn / 1024 % 256] h_pb (by omega) (by show _ < (6 : Int); omega) fun b hb => ?_
      have hbb : By b := by
        simp only [List.mem_cons, List.not_mem_nil, or_false] at hb
        unfold By
        omega
      have bb : Bys [b] := bys_cons hbb bys_nil
      wtm_at "x"
      have hat1 : at_ ≤ ri.length := by omega
      have hA : Bys (ri.take at_) := bys_take byi _
      have lA : (ri.take at_).length = at_ := by rw [List.length_take]; omega
      refine ite_d (fun hway => ?_) fun hway => ?_
      · wtm_at "x"
        rw [cutI_to]
        intro l1 n_l1
        have e_l1 : Ext H1 (upd H1 l1 (.lst (iV (ri.take at_)))) := Only'.put0 Only'.refl n_l1
        have h_l1 : (upd H1 l1 (.lst (iV (ri.take at_)))) l1 = some (.lst (iV (ri.take at_))) := upd_same
        generalize (upd H1 l1 (.lst (iV (ri.take at_)))) = H2 at *
        wtm_at "x"
        intro l2 n_l2
        have e_l2 : Ext H2 (upd H2 l2 (.lst [V.int b])) := Only'.put0 Only'.refl n_l2
        have h_l2 : (upd H2 l2 (.lst [V.int b])) l2 = some (.lst [V.int b]) := upd_same
        generalize (upd H2 l2 (.lst [V.int b])) = H3 at *
        refine x_cat (ys := iV [b]) (e_l2 l1 _ h_l1 (by simp)) h_l2 (by rw [iV_length, iV_length, sizeLine_eq, lA]; simp; omega) ?_
        rw [← iV_append]
        intro l3 n_l3
        have e_l3 : Ext H3 (upd H3 l3 (.lst (iV (ri.take at_ ++ [b])))) := Only'.put0 Only'.refl n_l3
        have h_l3 : (upd H3 l3 (.lst (iV (ri.take at_ ++ [b])))) l3 = some (.lst (iV (ri.take at_ ++ [b]))) := upd_same
        generalize (upd H3 l3 (.lst (iV (ri.take at_ ++ [b])))) = H4 at *
        have hp4 := (((e_l1.trans e_l2).trans e_l3)) p _ hp1 (by simp)
        wtm_at "x"
        rw [cutI_from ri (at_ + 1) (by omega)]
        intro l4 n_l4
        have e_l4 : Ext H4 (upd H4 l4 (.lst (iV (ri.drop (at_ + 1))))) := Only'.put0 Only'.refl n_l4
        have h_l4 : (upd H4 l4 (.lst (iV (ri.drop (at_ + 1))))) l4 = some (.lst (iV (ri.drop (at_ + 1)))) := upd_same
        generalize (upd H4 l4 (.lst (iV (ri.drop (at_ + 1))))) = H5 at *
        refine x_cat (e_l4 l3 _ h_l3 (by simp)) h_l4 (by rw [iV_length, iV_length, sizeLine_eq, List.length_append, List.length_drop, lA]; simp; omega) ?_
        rw [← iV_append]
        intro l5 n_l5
        have e_l5 : Ext H5 (upd H5 l5 (.lst (iV (ri.take at_ ++ [b] ++ ri.drop (at_ + 1))))) := Only'.put0 Only'.refl n_l5
        have h_l5 : (upd H5 l5 (.lst (iV (ri.take at_ ++ [b] ++ ri.drop (at_ + 1))))) l5 = some (.lst (iV (ri.take at_ ++ [b] ++ ri.drop (at_ + 1)))) := upd_same
        generalize (upd H5 l5 (.lst (iV (ri.take at_ ++ [b] ++ ri.drop (at_ + 1))))) = H6 at *
        wtm_at "x"
        refine ⟨_, l5, _, _, _, _, _, rfl, h_l5, (((((e0.trans e_pb).trans e_l1).trans e_l2).trans e_l3).trans e_l4).trans e_l5, bys_app (bys_app hA bb) (bys_drop byi _), ?_⟩
        rw [List.length_append, List.length_append, List.length_drop, lA]
        simp
        omega
      · wtm_at "x"
        rw [cutI_to]
        intro l1 n_l1
        have e_l1 : Ext H1 (upd H1 l1 (.lst (iV (ri.take at_)))) := Only'.put0 Only'.refl n_l1
        have h_l1 : (upd H1 l1 (.lst (iV (ri.take at_)))) l1 = some (.lst (iV (ri.take at_))) := upd_same
        generalize (upd H1 l1 (.lst (iV (ri.take at_)))) = H2 at *
        have hp2 := e_l1 p _ hp1 (by simp)
        wtm_at "x"
        rw [cutI_from ri (at_ + 1) (by omega)]
        intro l2 n_l2
        have e_l2 : Ext H2 (upd H2 l2 (.lst (iV (ri.drop (at_ + 1))))) := Only'.put0 Only'.refl n_l2
        have h_l2 : (upd H2 l2 (.lst (iV (ri.drop (at_ + 1))))) l2 = some (.lst (iV (ri.drop (at_ + 1)))) := upd_same
        generalize (upd H2 l2 (.lst (iV (ri.drop (at_ + 1))))) = H3 at *
        have hp3 := e_l2 p _ hp2 (by simp)
        refine x_cat (e_l2 l1 _ h_l1 (by simp)) h_l2 (by rw [iV_length, iV_length, sizeLine_eq, List.length_drop, lA]; omega) ?_
        rw [← iV_append]
        intro A n_A
        have e_A : Ext H3 (upd H3 A (.lst (iV (ri.take at_ ++ ri.drop (at_ + 1))))) := Only'.put0 Only'.refl n_A
        have h_A : (upd H3 A (.lst (iV (ri.take at_ ++ ri.drop (at_ + 1))))) A = some (.lst (iV (ri.take at_ ++ ri.drop (at_ + 1)))) := upd_same
        generalize (upd H3 A (.lst (iV (ri.take at_ ++ ri.drop (at_ + 1))))) = H4 at *
        have hp4 := e_A p _ hp3 (by simp)
        wtm_at "x"
        rw [cutI_to]
        intro l3 n_l3
        have e_l3 : Ext H4 (upd H4 l3 (.lst (iV (ri.take at_)))) := Only'.put0 Only'.refl n_l3
        have h_l3 : (upd H4 l3 (.lst (iV (ri.take at_)))) l3 = some (.lst (iV (ri.take at_))) := upd_same
        generalize (upd H4 l3 (.lst (iV (ri.take at_)))) = H5 at *
        have hp5 := e_l3 p _ hp4 (by simp)
        wtm_at "x"
        intro l4 n_l4
        have e_l4 : Ext H5 (upd H5 l4 (.lst [V.int b])) := Only'.put0 Only'.refl n_l4
        have h_l4 : (upd H5 l4 (.lst [V.int b])) l4 = some (.lst [V.int b]) := upd_same
        generalize (upd H5 l4 (.lst [V.int b])) = H6 at *
        have hp6 := e_l4 p _ hp5 (by simp)
        refine x_cat (ys := iV [b]) (e_l4 l3 _ h_l3 (by simp)) h_l4 (by rw [iV_length, iV_length, sizeLine_eq, lA]; simp; omega) ?_
        rw [← iV_append]
        intro l5 n_l5
        have e_l5 : Ext H6 (upd H6 l5 (.lst (iV (ri.take at_ ++ [b])))) := Only'.put0 Only'.refl n_l5
        have h_l5 : (upd H6 l5 (.lst (iV (ri.take at_ ++ [b])))) l5 = some (.lst (iV (ri.take at_ ++ [b]))) := upd_same
        generalize (upd H6 l5 (.lst (iV (ri.take at_ ++ [b])))) = H7 at *
        have hp7 := e_l5 p _ hp6 (by simp)
        wtm_at "x"
        rw [cutI_from ri at_ rfl]
        intro l6 n_l6
        have e_l6 : Ext H7 (upd H7 l6 (.lst (iV (ri.drop at_)))) := Only'.put0 Only'.refl n_l6
        have h_l6 : (upd H7 l6 (.lst (iV (ri.drop at_)))) l6 = some (.lst (iV (ri.drop at_))) := upd_same
        generalize (upd H7 l6 (.lst (iV (ri.drop at_)))) = H8 at *
        have hp8 := e_l6 p _ hp7 (by simp)
        refine x_cat (e_l6 l5 _ h_l5 (by simp)) h_l6 (by rw [iV_length, iV_length, sizeLine_eq, List.length_append, List.length_drop, lA]; simp; omega) ?_
        rw [← iV_append]
        intro B n_B
        have e_B : Ext H8 (upd H8 B (.lst (iV (ri.take at_ ++ [b] ++ ri.drop at_)))) := Only'.put0 Only'.refl n_B
        have h_B : (upd H8 B (.lst (iV (ri.take at_ ++ [b] ++ ri.drop at_)))) B = some (.lst (iV (ri.take at_ ++ [b] ++ ri.drop at_))) := upd_same
        generalize (upd H8 B (.lst (iV (ri.take at_ ++ [b] ++ ri.drop at_)))) = H9 at *
        have hp9 := e_B p _ hp8 (by simp)
        wtm_at "x"
        rw [cutI_to]
        intro C n_C
        have e_C : Ext H9 (upd H9 C (.lst (iV (ri.take at_)))) := Only'.put0 Only'.refl n_C
        have h_C : (upd H9 C (.lst (iV (ri.take at_)))) C = some (.lst (iV (ri.take at_))) := upd_same
        generalize (upd H9 C (.lst (iV (ri.take at_)))) = H10 at *
        have hp10 := e_C p _ hp9 (by simp)
        wtm_at "x"
        rw [cutI_to]
        intro l7 n_l7
        have e_l7 : Ext H10 (upd H10 l7 (.lst (iV (ri.take at_)))) := Only'.put0 Only'.refl n_l7
        have h_l7 : (upd H10 l7 (.lst (iV (ri.take at_)))) l7 = some (.lst (iV (ri.take at_))) := upd_same
        generalize (upd H10 l7 (.lst (iV (ri.take at_)))) = H11 at *
        have hp11 := e_l7 p _ hp10 (by simp)
        obtain ⟨kb, ekb, hkb⟩ := cutI_back ri at_
        wtm_at "x"
        rw [ekb]
        intro l8 n_l8
        have e_l8 : Ext H11 (upd H11 l8 (.lst (iV (ri.drop kb)))) := Only'.put0 Only'.refl n_l8
        have h_l8 : (upd H11 l8 (.lst (iV (ri.drop kb)))) l8 = some (.lst (iV (ri.drop kb))) := upd_same
        generalize (upd H11 l8 (.lst (iV (ri.drop kb)))) = H12 at *
        have hp12 := e_l8 p _ hp11 (by simp)
        refine x_cat (e_l8 l7 _ h_l7 (by simp)) h_l8 (by rw [iV_length, iV_length, sizeLine_eq, List.length_drop, lA]; omega) ?_
        rw [← iV_append]
        intro D n_D
        have e_D : Ext H12 (upd H12 D (.lst (iV (ri.take at_ ++ ri.drop kb)))) := Only'.put0 Only'.refl n_D
        have h_D : (upd H12 D (.lst (iV (ri.take at_ ++ ri.drop kb)))) D = some (.lst (iV (ri.take at_ ++ ri.drop kb))) := upd_same
        generalize (upd H12 D (.lst (iV (ri.take at_ ++ ri.drop kb)))) = H13 at *
        wtm_at "x"
        intro dd n_dd
        have e_dd : Ext H13 (upd H13 dd (.lst [V.ref A, V.ref B, V.ref C, V.ref D])) := Only'.put0 Only'.refl n_dd
        have h_dd : (upd H13 dd (.lst [V.ref A, V.ref B, V.ref C, V.ref D])) dd = some (.lst [V.ref A, V.ref B, V.ref C, V.ref D]) := upd_same
        generalize (upd H13 dd (.lst [V.ref A, V.ref B, V.ref C, V.ref D])) = H14 at *
        wtm_at "x"
        have eCD := ((e_l7.trans e_l8).trans e_D).trans e_dd
        have eBD := e_C.trans eCD
        have eAD := ((((e_l3.trans e_l4).trans e_l5).trans e_l6).trans e_B).trans eBD
        have hall : ∀ z, z ∈ [V.ref A, V.ref B, V.ref C, V.ref D] → ∃ (t : Addr) (rt : Row), z = V.ref t ∧ H14 t = some (.lst (iV rt)) ∧ Bys rt ∧ rt.length ≤ ri.length + 1 := by
          intro z hz
          simp only [List.mem_cons, List.not_mem_nil, or_false] at hz
          rcases hz with rfl | rfl | rfl | rfl
          · exact ⟨A, _, rfl, eAD A _ h_A (by simp), bys_app hA (bys_drop byi _), by rw [List.length_append, List.length_drop, lA]; omega⟩
          · exact ⟨B, _, rfl, eBD B _ h_B (by simp), bys_app (bys_app hA bb) (bys_drop byi _), by rw [List.length_append, List.length_append, List.length_drop, lA]; simp; omega⟩
          · exact ⟨C, _, rfl, eCD C _ h_C (by simp), hA, by rw [lA]; omega⟩
          · exact ⟨D, _, rfl, e_dd D _ h_D (by simp), bys_app hA (bys_drop byi _), by rw [List.length_append, List.length_drop, lA]; omega⟩
        refine x_ixV _ h_dd (by omega) (by show _ < (4 : Int); omega) fun z hz => ?_
        obtain ⟨t, rt, rfl, ht, bt, lt⟩ := hall z hz
        wtm_at "x"
        exact ⟨rt, t, _, _, _, _, _, rfl, ht, ((((e0.trans e_pb).trans e_l1).trans e_l2).trans e_A).trans eAD, bt, by omega⟩
    · rintro σ H0 ⟨ri, p, v3, v4, v5, v6, v7, rfl, hp, e0, byi, hlen⟩
      wtm_at "x"
      exact q ri H0 p byi (by omega) e0 hp
end
end Flow

namespace Flow
open PySem PySem.Spec PyProof.Rows L2
local macro_rules | `(tactic| wtm_at "x1") => `(tactic| first
  | (with_reducible refine Flow.x_ifT ?_))
/-! ### the law's own reading: escape, runs, chunks -/
/-- a layer's fault, as the law's own reading tells it -/
def LfAt (H : Hp) (fv : V) : Option LF → Prop
  | none => fv = .non
  | some (.wrong p) => ∃ t, fv = .ref t ∧ H t = some (.tup [.str "wrong", .int p])
  | some .cut => ∃ t, fv = .ref t ∧ H t = some (.tup [.str "cut"])
theorem LfAt.ext {H H' : Hp} {fv : V} {fo : Option LF} (h : LfAt H fv fo) (e : Ext H H') : LfAt H' fv fo := by
  match fo, h with
  | none, h => exact h
  | some (.wrong p), ⟨t, a, b⟩ => exact ⟨t, a, e t _ b (by simp)⟩
  | some .cut, ⟨t, a, b⟩ => exact ⟨t, a, e t _ b (by simp)⟩
def ToldF (H : Hp) (o : List Row × Option LF) (Q : VK) : Prop := ∀ H' tp r ts fv, Ext H H' → H tp = none → H r = none → (∀ t, t ∈ ts → H t = none) → H' tp = some (.tup [.ref r, fv]) → H' r = some (.lst (ts.map V.ref)) → RowsIn H' ts o.1 → LfAt H' fv o.2 → Q (.ref tp) H'
theorem ToldF.to {H H1 : Hp} {o : List Row × Option LF} {Q : VK} (q : ToldF H o Q) (e : Ext H H1) : ToldF H1 o Q := fun H' tp r ts fv e2 h1 h2 h3 => q H' tp r ts fv (e.trans e2) (e.free h1) (e.free h2) fun t ht => e.free (h3 t ht)
/-- what stands in the midst: the rows told so far -/
structure AccR (H0 : Hp) (f : Addr) (rows : List Row) (H : Hp) (ts : List Addr) : Prop where
  here : H f = some (.lst (ts.map V.ref))
  rows : RowsIn H ts rows
  ne : ∀ t, t ∈ ts → t ≠ f
  new : ∀ t, t ∈ ts → H0 t = none
  ext : Ext H0 H
theorem AccR.to {H0 H H' : Hp} {f : Addr} {rows : List Row} {ts : List Addr} (c : AccR H0 f rows H ts) (e : Ext H H') : AccR H0 f rows H' ts := ⟨e f _ c.here (by simp), c.rows.ext e, c.ne, c.new, c.ext.trans e⟩
theorem AccR.next {H0 H : Hp} {f t : Addr} {rows : List Row} {o : Row} {ts : List Addr} (c : AccR H0 f rows H ts) (hf : H0 f = none) (h : H t = some (.lst (iV o))) (hn : t ≠ f) (h0 : H0 t = none) : AccR H0 f (rows ++ [o]) (upd H f (.lst (ts.map V.ref ++ [V.ref t]))) (ts ++ [t]) := by
  refine ⟨?_, (c.rows.snoc h).put (ne_snoc c.ne hn), ne_snoc c.ne hn, all_snoc c.new h0, c.ext.put0 hf⟩
  rw [upd_same, List.map_append]
  rfl
theorem AccR.few {H0 H : Hp} {f : Addr} {rows : List Row} {ts : List Addr} (c : AccR H0 f rows H ts) : ts.length = rows.length := c.rows.len
theorem AccR.start {H0 H : Hp} {f : Addr} (h : H f = some (.lst [])) (e : Ext H0 H) : AccR H0 f [] H [] := ⟨h, RowsIn.nil, (fun _ h => nomatch h), (fun _ h => nomatch h), e⟩
theorem AccR.more {H0 H H2 : Hp} {f p : Addr} {rows : List Row} {x : Row} {ts : List Addr} {Q : VK} (c : AccR H0 f rows H ts) (e2 : Ext H H2) (hp : H2 p = some (.lst (iV x))) (hpn : H0 p = none) (hz : (ts.map V.ref).length < sizeLine)
    (q : ∀ r H3, AccR H0 r (rows ++ [x]) H3 (ts ++ [p]) → Ext H2 H3 → H0 r = none → Q (.ref r) H3) : ∀ p2, H2 p2 = none → rCat (.ref f) (.ref p2) (upd H2 p2 (.lst [V.ref p])) Q := by
  intro p2 hp2
  refine x_cat (keep (e2 f _ c.here (by simp)) hp2) upd_same (by rw [List.length_cons, List.length_nil]; exact hz) fun r hr => ?_
  have e3 : Ext H2 (upd (upd H2 p2 (.lst [V.ref p])) r (.lst (ts.map V.ref ++ [V.ref p]))) := (Only'.new Only'.refl hp2).new hr
  have hr2 : H2 r = none := (upd_none hr).2
  refine q r _ ⟨by rw [upd_same, List.map_append]; rfl, (c.rows.ext (e2.trans e3)).snoc (keep (keep hp hp2) hr), ?_, all_snoc c.new hpn, c.ext.trans (e2.trans e3)⟩ e3 (c.ext.free (e2.free hr2))
  refine ne_snoc (fun t ht z => ?_) fun z => ?_
  · subst z
    obtain ⟨i, hi⟩ := List.getElem?_of_mem ht
    have hl : i < rows.length := by
      rw [← c.rows.len]
      exact (List.getElem?_eq_some_iff.mp hi).1
    have := e2 _ _ (c.rows.at_ i _ _ hi (List.getElem?_eq_getElem hl)) (by simp)
    rw [hr2] at this
    cases this
  · subst z
    rw [hr2] at hp
    cases hp
theorem AccR.done {H0 H H2 : Hp} {f tp : Addr} {rows : List Row} {fo : Option LF} {o : List Row × Option LF} {ts : List Addr} {fv : V} {Q : VK} (c : AccR H0 f rows H ts) (hf : H0 f = none) (e2 : Ext H H2) (n : H0 tp = none) (h : H2 tp = some (.tup [.ref f, fv])) (hl : LfAt H2 fv fo) (ho : o = (rows, fo)) (q : ToldF H0 o Q) : Q (.ref tp) H2 := by
  subst ho
  exact q H2 tp f ts fv (c.ext.trans e2) n hf c.new h (e2 f _ c.here (by simp)) (c.rows.ext e2) hl
def spReadRow (s0 : RSt) (K : PySem.W.Frag) : Sp := fun vs H Q _ => ∃ (a : Addr) (row : Row), vs = [.ref a] ∧ SqL K H a (iV row) ∧ Bys row ∧ row.length ≤ 30000 ∧ ToldF H (own s0 row) Q
def spReadEsc (K : PySem.W.Frag) : Sp := fun vs H Q _ => ∃ (t a : Addr) (e : Int) (row : Row), vs = [.ref t, .ref a] ∧ SqT K H t (layV (.esc e)) ∧ SqL K H a (iV row) ∧ Bys row ∧ row.length ≤ 30000 ∧ ToldF H (own (.esc e 0 false) row) Q
def spReadChunks (K : PySem.W.Frag) : Sp := fun vs H Q _ => ∃ (n : Nat) (a : Addr) (row : Row), vs = [.int (n : Int), .ref a] ∧ SqL K H a (iV row) ∧ Bys row ∧ row.length ≤ 30000 ∧ 1 ≤ n ∧ n ≤ 255 ∧ ToldF H (own (.chunks (n : Int) 0 0 false) row) Q
theorem x_andK {t u : TT} {σ : L2.St} {H : Hp} {B : Bool → Hp → Prop} {a b : Bool} (ht : ∀ B' : Bool → Hp → Prop, B' a H → t σ H B') (hu : a = true → ∀ B' : Bool → Hp → Prop, B' b H → u σ H B') (q : B (a && b) H) : tAnd t u σ H B := by
  refine ht _ ?_
  cases a with
  | false => exact iteF q
  | true => exact iteT (hu rfl _ q)
theorem x_orK {t u : TT} {σ : L2.St} {H : Hp} {B : Bool → Hp → Prop} {a b : Bool} (ht : ∀ B' : Bool → Hp → Prop, B' a H → t σ H B') (hu : a = false → ∀ B' : Bool → Hp → Prop, B' b H → u σ H B') (q : B (a || b) H) : tOr t u σ H B := by
  refine ht _ ?_
  cases a with
  | true => exact iteT q
  | false => exact iteF (hu rfl _ q)
theorem gI_by {row : Row} {i : Nat} (h : Bys row) (hi : i < row.length) : By (gI row (i : Int)) := h _ (gI_mem (by omega) (by omega))
section
variable {P : Program} {w : World} {K : PySem.W.Frag} {mg : Str → Option Value} {base : Heap}
theorem ok_law_read_escape (T : Tx K mg) : DefOk P w K mg base 1 (He.ga K "_law_read_escape") ["_law_layer_here", "_law_row_here"] (spReadEsc K) := by
  refine def_ok (N := n_law_read_escape) (fn_law_read_escape T) sc_law_read_escape (fun _ _ _ _ _ _ us hl => match us, hl with | [_, _], _ => rfl) (fun vs H Q E h => ?_) (fun cdv A outer s H vs Q E hr h => ?_)
  · obtain ⟨t, a, e, row, rfl, _⟩ := h
    rfl
  · obtain ⟨t, a, e, row, rfl, ht, hs, hby, hz, q⟩ := h
    refine ⟨_, [_, _, _, _, _, _, _], (pss_cons (ps_setLc (i := 2) (own := [("_law_k", 5)]) (g := gName 5) (tt := tYes) rfl sc_law_read_escape.nd rfl rfl (sw_true rfl rfl rfl (by decide +kernel)) (pi_range1 rfl (f_range T) (pa_cons pe_int pa_nil)) (blkOk_by (own := [("_law_k", 5)]) (N := n_law_read_escape) (sc := defScope s_law_read_escape) (by decide +kernel)) (fun _ _ _ _ _ => pg_name (i := 5) sc_law_read_escape.nd rfl (Or.inl rfl)) (fun _ _ _ _ _ => pts_nil) (fun _ _ _ _ _ => (pe_op op_mod (pe_op op_add (pe_ix (ix_tupK K rfl) (pv 0) pe_int (fun _ _ => rfl)) (pv 5)) pe_int)))
      (pss_cons (ps_set (i := 3) sc_law_read_escape.nd rfl (Or.inl rfl) (pe_lst pa_nil))
      (pss_cons (ps_set (i := 4) sc_law_read_escape.nd rfl (Or.inl rfl) pe_bl)
      (pss_cons (ps_for (passes_of rfl) rfl (pi_range1 rfl (f_range T) (pa_cons (pe_callB call_lenS rfl (f_len T) (by decide +kernel) (pa_cons (pv 1) pa_nil)) pa_nil)) (pg_name (i := 5) sc_law_read_escape.nd rfl (Or.inl rfl)) (pss_cons (ps_if (pt_ifE (pt_val (pv 4)) (pt_cmpR op_notIn_seq (pe_ix ix_list (pv 1) (pv 5) (fun _ _ => rfl)) (pe_slice sl_list (pv 2) (po_some pe_int) po_none) (by rfl)) (pt_cmpR op_eq (pe_ix ix_list (pv 1) (pv 5) (fun _ _ => rfl)) (pe_ix ix_list (pv 2) pe_int (fun _ _ => rfl)) (nomark _))) (pss_one (ps_ret (pe_tup (pa_cons (pv 3) (pa_cons (pe_tup (pa_cons pe_str (pa_cons (pv 5) pa_nil))) pa_nil))))) pss_nil)
      (pss_cons (ps_set (i := 6) sc_law_read_escape.nd rfl (Or.inl rfl) (pe_lst (pa_cons (pe_ix ix_list (pv 1) (pv 5) (fun _ _ => rfl)) pa_nil)))
      (pss_cons (ps_if (pt_val (pv 4)) (pss_one (ps_set (i := 6) sc_law_read_escape.nd rfl (Or.inl rfl) (pe_lst (pa_cons (pe_ifExp (pt_cmpR op_eq (pe_ix ix_list (pv 1) (pv 5) (fun _ _ => rfl)) (pe_ix ix_list (pv 2) pe_int (fun _ _ => rfl)) (nomark _)) (pe_ix ix_list (pv 2) pe_int (fun _ _ => rfl)) (pe_ix ix_list (pv 2) pe_int (fun _ _ => rfl))) pa_nil)))) pss_nil)
      (pss_cons (ps_set (i := 4) sc_law_read_escape.nd rfl (Or.inl rfl) (pe_and (pe_not (pv 4)) (pe_one (pe_cmpR op_eq (pe_ix ix_list (pv 1) (pv 5) (fun _ _ => rfl)) (pe_ix ix_list (pv 2) pe_int (fun _ _ => rfl)) (nomark _)))))
      (pss_one (ps_expr (pe_bm PySem.F.plainAttrs_list PySem.F.slot_list_append PySem.F.type_list_append mt_append (pv 3) (pa_cons (pe_ifExp (pt_val (pv 4)) (pe_lst pa_nil) (pv 6)) pa_nil)))))))))
      (pss_one (ps_ret (pe_ifExp (pt_val (pv 4)) (pe_tup (pa_cons (pv 3) (pa_cons (pe_tup (pa_cons pe_str pa_nil)) pa_nil))) (pe_tup (pa_cons (pe_op op_cat (pv 3) (pe_lst (pa_cons (pe_lst pa_nil) pa_nil))) (pa_cons pe_non pa_nil)))))))))), rfl, ?_⟩
    try dsimp only [cxOf]
    wtm_at "x"
    refine x_rLcR (k := 4) (fun j => V.int ((e + (j : Int)) % 256)) rfl (by decide) (fun _ => rfl) (fun j H1 hj e1 Q' k => ?_) fun mk H1 hmk e1 h1 => ?_
    · wtm_at "x"
      refine x_ixT (SqT.ext e1 ht) (ix_arg (k := "escape") (xs := [e]) rfl) ?_
      wtm_at "x"
      exact k _ Only'.refl
    · rw [ints_iV] at h1
      have em : ((List.range 4).map fun j : Nat => (e + (j : Int)) % 256) = [(e + 0) % 256, (e + 1) % 256, (e + 2) % 256, (e + 3) % 256] := rfl
      rw [em, Int.add_zero] at h1
      have ha : ∀ (j : Nat) (z : Int) (H2 : Hp), Ext H1 H2 → [e % 256, (e + 1) % 256, (e + 2) % 256, (e + 3) % 256][j]? = some z → ∀ Q' : VK, Q' (.int z) H2 → rIxL K (.ref mk) (.int (j : Int)) H2 Q' := fun j z H2 e2 hz Q' k => x_ixL (SqL.of (e2 mk _ h1 (by simp))) (at_of rfl (iV_at hz)) k
      wtm_at "x"
      intro f n_f
      have e_f : Ext H1 (upd H1 f (.lst [])) := Only'.put0 Only'.refl n_f
      have h_f : (upd H1 f (.lst [])) f = some (.lst []) := upd_same
      generalize (upd H1 f (.lst [])) = H2 at *
      have hf0 : H f = none := e1.free n_f
      have hsf := SqL.ext (e1.trans e_f) hs
      wtm_at "x"
      rw [iV_length]
      refine x_rForR1 (k := row.length) rfl (by omega) (fun i σ H' => ∃ (m : Bool) (rows : List Row) (ts : List Addr) (v5 v6 : Option V), σ = [some (.ref t), some (.ref a), some (.ref mk), some (.ref f), some (.bl m), v5, v6] ∧ Ext H1 H' ∧ AccR H f rows H' ts ∧
        OwnAt (.esc e 0 false) row i (.esc e (i : Int) m) rows) ⟨false, [], [], _, _, rfl, e_f, AccR.start h_f (e1.trans e_f), rat_zero _ _⟩ ?_ ?_
      · rintro i σ H' hi ⟨m, rows, ts, v5, v6, rfl, eH, c, hr⟩
        have hs1 := SqL.ext c.ext hs
        have hlen := c.few
        have hrl := rat_len (by omega) hr
        have hsz : (ts.map V.ref).length < sizeLine := by
          rw [List.length_map, hlen, hrl, sizeLine_eq]
          omega
        have hmk1 := eH mk _ h1 (by simp)
        have hx : ∀ (H3 : Hp) (Q' : VK), Ext H' H3 → Q' (.int (gI row (i : Int))) H3 → rIxL K (.ref a) (.int (i : Int)) H3 Q' := fun H3 Q' e3 k => x_ixL (SqL.ext e3 hs1) (gI_at (by omega) (by omega)) k
        wtm_at "x"
        have hb := gI_by hby hi
        have ht1 : rtake (.esc e (i : Int) m) (gI row (i : Int)) = (if m = true then
            if gI row (i : Int) = (e + 2) % 256 then .ok [e % 256] (.esc e ((i : Int) + 1) false)
            else if gI row (i : Int) = (e + 3) % 256 then .ok [(e + 1) % 256] (.esc e ((i : Int) + 1) false)
            else .wrong (i : Int)
          else if gI row (i : Int) = e % 256 then .wrong (i : Int)
          else if gI row (i : Int) = (e + 1) % 256 then .ok [] (.esc e ((i : Int) + 1) true)
          else .ok [gI row (i : Int)] (.esc e ((i : Int) + 1) false)) := rfl
        cases m with
        | true =>
          wtm_at "x"
          refine hx _ _ Only'.refl ?_
          wtm_at "x"
          intro l n_l
          have e_l : Ext H' (upd H' l (.lst (cutV (iV [e % 256, (e + 1) % 256, (e + 2) % 256, (e + 3) % 256]) (some 2) none))) := Only'.put0 Only'.refl n_l
          have h_l : (upd H' l (.lst (cutV (iV [e % 256, (e + 1) % 256, (e + 2) % 256, (e + 3) % 256]) (some 2) none))) l = some (.lst (cutV (iV [e % 256, (e + 1) % 256, (e + 2) % 256, (e + 3) % 256]) (some 2) none)) := upd_same
          generalize (upd H' l (.lst (cutV (iV [e % 256, (e + 1) % 256, (e + 2) % 256, (e + 3) % 256]) (some 2) none))) = H3 at *
          rw [show cutV (iV [e % 256, (e + 1) % 256, (e + 2) % 256, (e + 3) % 256]) (some 2) none = iV [(e + 2) % 256, (e + 3) % 256] from cutI_from _ 2 rfl] at h_l
          refine x_ninI (Or.inl (SqL.of h_l)) ?_
          wtm_at "x"
          refine ite_nd (fun hno => ?_) fun hin => ?_
          · wtm_at "x"
            intro t1 n_t1
            have e_t1 : Ext H3 (upd H3 t1 (.tup [V.str "wrong", V.int (i : Int)])) := Only'.put0 Only'.refl n_t1
            have h_t1 : (upd H3 t1 (.tup [V.str "wrong", V.int (i : Int)])) t1 = some (.tup [V.str "wrong", V.int (i : Int)]) := upd_same
            generalize (upd H3 t1 (.tup [V.str "wrong", V.int (i : Int)])) = H4 at *
            wtm_at "x"
            intro tp n_tp
            have e_tp : Ext H4 (upd H4 tp (.tup [V.ref f, V.ref t1])) := Only'.put0 Only'.refl n_tp
            have h_tp : (upd H4 tp (.tup [V.ref f, V.ref t1])) tp = some (.tup [V.ref f, V.ref t1]) := upd_same
            generalize (upd H4 tp (.tup [V.ref f, V.ref t1])) = H5 at *
            have e5 := (e_l.trans e_t1).trans e_tp
            refine c.done hf0 e5 (c.ext.free ((e_l.trans e_t1).free n_tp)) h_tp (fo := some (.wrong (i : Int))) ⟨t1, rfl, e_tp t1 _ h_t1 (by simp)⟩ (rat_wrong hr hi ?_) q
            rw [ht1, if_pos rfl, if_neg (fun z => hno (by rw [z]; simp)), if_neg (fun z => hno (by rw [z]; simp))]
          · wtm_at "x"
            refine hx _ _ e_l ?_
            wtm_at "x"
            intro p n_p
            have e_p : Ext H3 (upd H3 p (.lst [V.int (gI row (i : Int))])) := Only'.put0 Only'.refl n_p
            have h_p : (upd H3 p (.lst [V.int (gI row (i : Int))])) p = some (.lst [V.int (gI row (i : Int))]) := upd_same
            generalize (upd H3 p (.lst [V.int (gI row (i : Int))])) = H4 at *
            wtm_at "x"
            refine hx _ _ (e_l.trans e_p) ?_
            wtm_at "x"
            refine ha 2 _ _ (eH.trans (e_l.trans e_p)) rfl _ ?_
            wtm_at "x"
            refine ite_d (fun h2 => ?_) fun h2 => ?_
            · wtm_at "x"
              refine ha 0 _ _ (eH.trans (e_l.trans e_p)) rfl _ ?_
              wtm_at "x"
              intro p2 n_p2
              have e_p2 : Ext H4 (upd H4 p2 (.lst [V.int (e % 256)])) := Only'.put0 Only'.refl n_p2
              have h_p2 : (upd H4 p2 (.lst [V.int (e % 256)])) p2 = some (.lst [V.int (e % 256)]) := upd_same
              generalize (upd H4 p2 (.lst [V.int (e % 256)])) = H5 at *
              have e5 := (e_l.trans e_p).trans e_p2
              have c2 := c.to e5
              have hh := c2.here
              wtm_at "x"
              refine iteF ?_
              wtm_at "x"
              refine ⟨_, _, _, _, _, rfl, (eH.trans e5).put0 n_f, c2.next (o := [e % 256]) hf0 h_p2 (Ne.symm (ne_of_none (c.to (e_l.trans e_p)).here n_p2)) ((c.to (e_l.trans e_p)).ext.free n_p2), rat_next hr hi ?_⟩
              rw [ht1, if_pos rfl, if_pos h2]
              rfl
            · wtm_at "x"
              refine ha 1 _ _ (eH.trans (e_l.trans e_p)) rfl _ ?_
              wtm_at "x"
              intro p2 n_p2
              have e_p2 : Ext H4 (upd H4 p2 (.lst [V.int ((e + 1) % 256)])) := Only'.put0 Only'.refl n_p2
              have h_p2 : (upd H4 p2 (.lst [V.int ((e + 1) % 256)])) p2 = some (.lst [V.int ((e + 1) % 256)]) := upd_same
              generalize (upd H4 p2 (.lst [V.int ((e + 1) % 256)])) = H5 at *
              have e5 := (e_l.trans e_p).trans e_p2
              have c2 := c.to e5
              have hh := c2.here
              wtm_at "x"
              refine iteF ?_
              wtm_at "x"
              refine ⟨_, _, _, _, _, rfl, (eH.trans e5).put0 n_f, c2.next (o := [(e + 1) % 256]) hf0 h_p2 (Ne.symm (ne_of_none (c.to (e_l.trans e_p)).here n_p2)) ((c.to (e_l.trans e_p)).ext.free n_p2), rat_next hr hi ?_⟩
              have h3 : gI row (i : Int) = (e + 3) % 256 := by
                have hin2 : gI row (i : Int) ∈ [(e + 2) % 256, (e + 3) % 256] := hin
                rcases List.mem_cons.mp hin2 with z | z
                · exact absurd z h2
                · exact List.mem_singleton.mp z
              rw [ht1, if_pos rfl, if_neg h2, if_pos h3]
              rfl
        | false =>
          wtm_at "x"
          refine hx _ _ Only'.refl ?_
          wtm_at "x"
          refine ha 0 _ _ eH rfl _ ?_
          wtm_at "x"
          refine ite_d (fun h0 => ?_) fun h0 => ?_
          · wtm_at "x"
            intro t1 n_t1
            have e_t1 : Ext H' (upd H' t1 (.tup [V.str "wrong", V.int (i : Int)])) := Only'.put0 Only'.refl n_t1
            have h_t1 : (upd H' t1 (.tup [V.str "wrong", V.int (i : Int)])) t1 = some (.tup [V.str "wrong", V.int (i : Int)]) := upd_same
            generalize (upd H' t1 (.tup [V.str "wrong", V.int (i : Int)])) = H4 at *
            wtm_at "x"
            intro tp n_tp
            have e_tp : Ext H4 (upd H4 tp (.tup [V.ref f, V.ref t1])) := Only'.put0 Only'.refl n_tp
            have h_tp : (upd H4 tp (.tup [V.ref f, V.ref t1])) tp = some (.tup [V.ref f, V.ref t1]) := upd_same
            generalize (upd H4 tp (.tup [V.ref f, V.ref t1])) = H5 at *
            have e5 := e_t1.trans e_tp
            refine c.done hf0 e5 (c.ext.free (e_t1.free n_tp)) h_tp (fo := some (.wrong (i : Int))) ⟨t1, rfl, e_tp t1 _ h_t1 (by simp)⟩ (rat_wrong hr hi ?_) q
            rw [ht1, if_neg (by decide), if_pos h0]
          · wtm_at "x"
            refine hx _ _ Only'.refl ?_
            wtm_at "x"
            intro p n_p
            have e_p : Ext H' (upd H' p (.lst [V.int (gI row (i : Int))])) := Only'.put0 Only'.refl n_p
            have h_p : (upd H' p (.lst [V.int (gI row (i : Int))])) p = some (.lst [V.int (gI row (i : Int))]) := upd_same
            generalize (upd H' p (.lst [V.int (gI row (i : Int))])) = H4 at *
            have hh := (c.to e_p).here
            wtm_at "x"
            refine iteT ?_
            wtm_at "x"
            refine hx _ _ e_p ?_
            wtm_at "x"
            refine ha 1 _ _ (eH.trans e_p) rfl _ ?_
            wtm_at "x"
            by_cases h1' : gI row (i : Int) = (e + 1) % 256
            · rw [decide_eq_true h1']
              wtm_at "x"
              intro p2 n_p2
              have e_p2 : Ext H4 (upd H4 p2 (.lst [])) := Only'.put0 Only'.refl n_p2
              have h_p2 : (upd H4 p2 (.lst [])) p2 = some (.lst []) := upd_same
              generalize (upd H4 p2 (.lst [])) = H5 at *
              have e5 := e_p.trans e_p2
              have c2 := c.to e5
              have hh := c2.here
              wtm_at "x"
              refine ⟨_, _, _, _, _, rfl, (eH.trans e5).put0 n_f, c2.next (o := []) hf0 h_p2 (Ne.symm (ne_of_none (c.to e_p).here n_p2)) ((c.to e_p).ext.free n_p2), rat_next hr hi ?_⟩
              rw [ht1, if_neg (by decide), if_neg h0, if_pos h1']
              rfl
            · rw [decide_eq_false h1']
              wtm_at "x"
              have c2 := c.to e_p
              have hh := c2.here
              wtm_at "x"
              refine ⟨_, _, _, _, _, rfl, (eH.trans e_p).put0 n_f, c2.next (o := [gI row (i : Int)]) hf0 h_p (Ne.symm (ne_of_none c.here n_p)) (c.ext.free n_p), rat_next hr hi ?_⟩
              rw [ht1, if_neg (by decide), if_neg h0, if_neg h1']
              rfl
      · rintro σ H' ⟨m, rows, ts, v5, v6, rfl, eH, c, hr⟩
        have hlen := c.few
        have hrl := rat_len (Nat.le_refl _) hr
        have hsz : (ts.map V.ref).length < sizeLine := by
          rw [List.length_map, hlen, hrl, sizeLine_eq]
          omega
        have ho := rat_end hr
        wtm_at "x"
        cases m with
        | true =>
          wtm_at "x"
          intro t1 n_t1
          have e_t1 : Ext H' (upd H' t1 (.tup [V.str "cut"])) := Only'.put0 Only'.refl n_t1
          have h_t1 : (upd H' t1 (.tup [V.str "cut"])) t1 = some (.tup [V.str "cut"]) := upd_same
          generalize (upd H' t1 (.tup [V.str "cut"])) = H4 at *
          wtm_at "x"
          intro tp n_tp
          have e_tp : Ext H4 (upd H4 tp (.tup [V.ref f, V.ref t1])) := Only'.put0 Only'.refl n_tp
          have h_tp : (upd H4 tp (.tup [V.ref f, V.ref t1])) tp = some (.tup [V.ref f, V.ref t1]) := upd_same
          generalize (upd H4 tp (.tup [V.ref f, V.ref t1])) = H5 at *
          exact c.done hf0 (e_t1.trans e_tp) (c.ext.free (e_t1.free n_tp)) h_tp (fo := some .cut) ⟨t1, rfl, e_tp t1 _ h_t1 (by simp)⟩ ho q
        | false =>
          wtm_at "x"
          intro p n_p
          have e_p : Ext H' (upd H' p (.lst [])) := Only'.put0 Only'.refl n_p
          have h_p : (upd H' p (.lst [])) p = some (.lst []) := upd_same
          generalize (upd H' p (.lst [])) = H4 at *
          wtm_at "x"
          refine c.more (x := []) e_p h_p (c.ext.free n_p) hsz fun r H5 c3 e3 hr0 => ?_
          wtm_at "x"
          intro tp n_tp
          have e_tp : Ext H5 (upd H5 tp (.tup [V.ref r, V.non])) := Only'.put0 Only'.refl n_tp
          have h_tp : (upd H5 tp (.tup [V.ref r, V.non])) tp = some (.tup [V.ref r, V.non]) := upd_same
          generalize (upd H5 tp (.tup [V.ref r, V.non])) = H6 at *
          exact c3.done hr0 e_tp (c3.ext.free n_tp) h_tp (fo := none) rfl ho q
theorem ok_law_read_runs (T : Tx K mg) : DefOk P w K mg base 1 (He.ga K "_law_read_runs") ["_law_row_here"] (spReadRow (.runs 0 0 0 0) K) := by
  refine def_ok (N := n_law_read_runs) (fn_law_read_runs T) sc_law_read_runs (fun _ _ _ _ _ _ us hl => match us, hl with | [_], _ => rfl) (fun vs H Q E h => ?_) (fun cdv A outer s H vs Q E hr h => ?_)
  · obtain ⟨a, row, rfl, _⟩ := h
    rfl
  · obtain ⟨a, row, rfl, hs, hby, hz, q⟩ := h
    refine ⟨_, [_, _, _], (pss_cons (ps_set (i := 1) sc_law_read_runs.nd rfl (Or.inl rfl) (pe_lst pa_nil))
      (pss_cons (ps_for (passes_of rfl) rfl (pi_range1 rfl (f_range T) (pa_cons (pe_callB call_lenS rfl (f_len T) (by decide +kernel) (pa_cons (pv 0) pa_nil)) pa_nil)) (pg_name (i := 2) sc_law_read_runs.nd rfl (Or.inl rfl)) (pss_cons (ps_if (PW.pt (pw_and (pt_cmpR op_eq (pe_op op_mod (pv 2) pe_int) pe_int (nomark _)) (pw_and1 (pt_cmpR op_eq (pe_ix ix_list (pv 0) (pv 2) (fun _ _ => rfl)) pe_int (nomark _))))) (pss_one (ps_ret (pe_tup (pa_cons (pv 1) (pa_cons (pe_tup (pa_cons pe_str (pa_cons (pv 2) pa_nil))) pa_nil))))) pss_nil)
      (pss_cons (ps_if (PW.pt (pw_and (pt_cmpR op_eq (pe_op op_mod (pv 2) pe_int) pe_int (nomark _)) (pw_and (pt_cmpR op_gt (pv 2) pe_int (nomark _)) (pw_and (pt_cmpR op_eq (pe_ix ix_list (pv 0) (pv 2) (fun _ _ => rfl)) (pe_ix ix_list (pv 0) (pe_op op_sub (pv 2) pe_int) (fun _ _ => rfl)) (nomark _)) (pw_and1 (pt_cmpR op_lt (pe_ix ix_list (pv 0) (pe_op op_sub (pv 2) pe_int) (fun _ _ => rfl)) pe_int (nomark _))))))) (pss_one (ps_ret (pe_tup (pa_cons (pv 1) (pa_cons (pe_tup (pa_cons pe_str (pa_cons (pv 2) pa_nil))) pa_nil))))) pss_nil)
      (pss_one (ps_expr (pe_bm PySem.F.plainAttrs_list PySem.F.slot_list_append PySem.F.type_list_append mt_append (pv 1) (pa_cons (pe_ifExp (pt_cmpR op_eq (pe_op op_mod (pv 2) pe_int) pe_int (nomark _)) (pe_op op_rep (pe_lst (pa_cons (pe_ix ix_list (pv 0) (pv 2) (fun _ _ => rfl)) pa_nil)) (pe_ix ix_list (pv 0) (pe_op op_sub (pv 2) pe_int) (fun _ _ => rfl))) (pe_lst pa_nil)) pa_nil)))))))
      (pss_one (ps_ret (pe_ifExp (pt_cmpR op_eq (pe_op op_mod (pe_callB call_lenS rfl (f_len T) (by decide +kernel) (pa_cons (pv 0) pa_nil)) pe_int) pe_int (nomark _)) (pe_tup (pa_cons (pv 1) (pa_cons (pe_tup (pa_cons pe_str pa_nil)) pa_nil))) (pe_tup (pa_cons (pe_op op_cat (pv 1) (pe_lst (pa_cons (pe_lst pa_nil) pa_nil))) (pa_cons pe_non pa_nil)))))))), rfl, ?_⟩
    try dsimp only [cxOf]
    wtm_at "x"
    intro f n_f
    have e_f : Ext H (upd H f (.lst [])) := Only'.put0 Only'.refl n_f
    have h_f : (upd H f (.lst [])) f = some (.lst []) := upd_same
    generalize (upd H f (.lst [])) = H1 at *
    wtm_at "x"
    refine x_len (Or.inl (SqL.ext e_f hs)) ?_
    rw [iV_length]
    wtm_at "x"
    refine x_rForR1 (k := row.length) rfl (by omega) (fun i σ H' => ∃ (many lastN lastB : Int) (rows : List Row) (ts : List Addr) (v2 : Option V), σ = [some (.ref a), some (.ref f), v2] ∧ AccR H f rows H' ts ∧
      OwnAt (.runs 0 0 0 0) row i (.runs (i : Int) many lastN lastB) rows ∧ (i % 2 = 0 → many = 0) ∧ (i % 2 = 1 → many = gI row ((i - 1 : Nat) : Int) ∧ many ≠ 0) ∧ (i < 2 → lastN = 0) ∧ (2 ≤ i → lastN = gI row ((2 * (i / 2) - 2 : Nat) : Int) ∧ lastB = gI row ((2 * (i / 2) - 1 : Nat) : Int) ∧ 0 < lastN)) ⟨0, 0, 0, [], [], _, rfl, AccR.start h_f e_f, rat_zero _ _, (fun _ => rfl), (fun z => absurd z (by decide)), (fun _ => rfl), (fun z => absurd z (by decide))⟩ ?_ ?_
    · rintro i σ H' hi ⟨many, lastN, lastB, rows, ts, v2, rfl, c, hr, i0, i1, i2, i3⟩
      have hs1 := SqL.ext c.ext hs
      have hlen := c.few
      have hrl := rat_len (by omega) hr
      have hsz : (ts.map V.ref).length < sizeLine := by
        rw [List.length_map, hlen, hrl, sizeLine_eq]
        omega
      have hx : ∀ (j : Nat) (H3 : Hp) (Q' : VK), j < row.length → Ext H' H3 → Q' (.int (gI row (j : Int))) H3 → rIxL K (.ref a) (.int (j : Int)) H3 Q' := fun j H3 Q' hj e3 k => x_ixL (SqL.ext e3 hs1) (gI_at (by omega) (by omega)) k
      obtain ⟨b0, b1⟩ := gI_by hby hi
      have ht1 : rtake (.runs (i : Int) many lastN lastB) (gI row (i : Int)) = (if many = 0 then
          if gI row (i : Int) = 0 then .wrong (i : Int) else .ok [] (.runs ((i : Int) + 1) (gI row (i : Int)) lastN lastB)
        else if gI row (i : Int) = lastB ∧ 0 < lastN ∧ lastN < 255 then .wrong (i : Int)
        else .ok (List.replicate many.toNat (gI row (i : Int))) (.runs ((i : Int) + 1) 0 many (gI row (i : Int)))) := rfl
      have wrong : rtake (.runs (i : Int) many lastN lastB) (gI row (i : Int)) = .wrong (i : Int) → ∀ t1, H' t1 = none → ∀ tp, (upd H' t1 (.tup [V.str "wrong", V.int (i : Int)])) tp = none → Q (.ref tp) (upd (upd H' t1 (.tup [V.str "wrong", V.int (i : Int)])) tp (.tup [V.ref f, V.ref t1])) := fun hw t1 n1 tp n2 => by
        have e1 : Ext H' (upd H' t1 (.tup [V.str "wrong", V.int (i : Int)])) := Only'.new Only'.refl n1
        exact c.done n_f (e1.new n2) (c.ext.free (e1.free n2)) upd_same (fo := some (.wrong (i : Int))) ⟨t1, rfl, keep upd_same n2⟩ (rat_wrong hr hi hw) q
      wtm_at "x"
      rcases Nat.mod_two_eq_zero_or_one i with par | par
      · have hm0 := i0 par
        subst hm0
        have epar : (i : Int) % 2 = 0 := by omega
        refine x_andJ (a := true) (b := decide (gI row (i : Int) = 0)) (fun B' k => ?_) (fun _ B' k => ?_) (fun _ h2 => ?_) (fun h12 => ?_)
        · wtm_at "x"
          rw [epar]
          exact k
        · wtm_at "x"
          refine hx i _ _ hi Only'.refl ?_
          wtm_at "x"
          exact k
        · refine iteT ?_
          wtm_at "x"
          intro t1 n1
          wtm_at "x"
          intro tp n2
          refine wrong ?_ t1 n1 tp n2
          rw [ht1, if_pos rfl, if_pos (of_decide_eq_true h2)]
        · refine iteF ?_
          have hb : ¬ gI row (i : Int) = 0 := fun z => by
            rw [decide_eq_true z] at h12
            cases h12
          rw [if_pos rfl, if_neg hb] at ht1
          wtm_at "x"
          refine x_andJ (a := false) (b := true) (fun B' k => ?_) (fun z => ?_) (fun z => ?_) (fun _ => ?_)
          · wtm_at "x"
            rw [epar]
            exact k
          · cases z
          · cases z
          refine iteF ?_
          have hh := c.here
          wtm_at "x"
          rw [epar]
          refine iteF ?_
          wtm_at "x"
          intro p n_p
          have e_p : Ext H' (upd H' p (.lst [])) := Only'.put0 Only'.refl n_p
          have h_p : (upd H' p (.lst [])) p = some (.lst []) := upd_same
          generalize (upd H' p (.lst [])) = H3 at *
          have c2 := c.to e_p
          have hh := c2.here
          wtm_at "x"
          refine ⟨_, _, _, _, _, _, rfl, c2.next (o := []) n_f h_p (Ne.symm (ne_of_none c.here n_p)) (c.ext.free n_p), rat_next hr hi ht1, fun z => by omega, fun _ => ⟨rfl, hb⟩, fun z => i2 (by omega), fun z => ?_⟩
          have := i3 (by omega)
          rw [show (i + 1) / 2 = i / 2 by omega]
          exact this
      · obtain ⟨hm, hm0⟩ := i1 par
        have hi1 : 1 ≤ i := by omega
        have hmb := gI_by hby (show i - 1 < row.length by omega)
        obtain ⟨hmb0, hmb1⟩ := hmb
        have epar : (i : Int) % 2 = 1 := by omega
        rw [if_neg hm0] at ht1
        refine x_andJ (a := false) (b := true) (fun B' k => ?_) (fun z => ?_) (fun z => ?_) (fun _ => ?_)
        · wtm_at "x"
          rw [epar]
          exact k
        · cases z
        · cases z
        refine iteF ?_
        wtm_at "x"
        refine x_andK (a := true) (b := decide (2 < i) && (decide (gI row (i : Int) = gI row ((i - 2 : Nat) : Int)) && decide (gI row ((i - 3 : Nat) : Int) < 255))) (fun B' k => ?_) (fun _ B' k => ?_) ?_
        · wtm_at "x"
          rw [epar]
          exact k
        · refine x_andK (a := decide (2 < i)) (b := decide (gI row (i : Int) = gI row ((i - 2 : Nat) : Int)) && decide (gI row ((i - 3 : Nat) : Int) < 255)) (fun B2 k2 => ?_) (fun h3 B2 k2 => ?_) k
          · wtm_at "x"
            rw [show decide ((i : Int) > 2) = decide (2 < i) from by
              by_cases z : 2 < i
              · rw [decide_eq_true z, decide_eq_true (by omega)]
              · rw [decide_eq_false z, decide_eq_false (by omega)]]
            exact k2
          · have h3' : 2 < i := of_decide_eq_true h3
            refine x_andK (a := decide (gI row (i : Int) = gI row ((i - 2 : Nat) : Int))) (b := decide (gI row ((i - 3 : Nat) : Int) < 255)) (fun B3 k3 => ?_) (fun _ B3 k3 => ?_) k2
            · wtm_at "x"
              refine hx i _ _ hi Only'.refl ?_
              wtm_at "x"
              rw [show (i : Int) - 2 = ((i - 2 : Nat) : Int) by omega]
              refine hx _ _ _ (by omega) Only'.refl ?_
              wtm_at "x"
              exact k3
            · wtm_at "x"
              rw [show (i : Int) - 3 = ((i - 3 : Nat) : Int) by omega]
              refine hx _ _ _ (by omega) Only'.refl ?_
              wtm_at "x"
              exact k3
        · refine ite_b (fun hc => ?_) fun hc => ?_
          · simp only [Bool.true_and, Bool.and_eq_true, decide_eq_true_eq] at hc
            obtain ⟨c1, c2, c3⟩ := hc
            obtain ⟨l1, l2, l3⟩ := i3 (by omega)
            rw [show 2 * (i / 2) - 2 = i - 3 by omega] at l1
            rw [show 2 * (i / 2) - 1 = i - 2 by omega] at l2
            wtm_at "x"
            intro t1 n1
            wtm_at "x"
            intro tp n2
            refine wrong ?_ t1 n1 tp n2
            rw [ht1, if_pos ⟨by rw [l2]; exact c2, l3, by rw [l1]; exact c3⟩]
          · have hn : ¬ (gI row (i : Int) = lastB ∧ 0 < lastN ∧ lastN < 255) := fun ⟨z1, z2, z3⟩ => by
              have h3 : 2 ≤ i := Nat.le_of_not_lt fun y => by
                have := i2 y
                omega
              obtain ⟨l1, l2, l3⟩ := i3 h3
              rw [show 2 * (i / 2) - 2 = i - 3 by omega] at l1
              rw [show 2 * (i / 2) - 1 = i - 2 by omega] at l2
              rw [decide_eq_true (show 2 < i by omega), decide_eq_true (show gI row (i : Int) = gI row ((i - 2 : Nat) : Int) by rw [z1, l2]), decide_eq_true (show gI row ((i - 3 : Nat) : Int) < 255 by rw [← l1]; exact z3)] at hc
              cases hc
            rw [if_neg hn] at ht1
            have hh := c.here
            wtm_at "x"
            rw [epar]
            refine iteT ?_
            wtm_at "x"
            refine hx i _ _ hi Only'.refl ?_
            wtm_at "x"
            intro p n_p
            have e_p : Ext H' (upd H' p (.lst [V.int (gI row (i : Int))])) := Only'.put0 Only'.refl n_p
            have h_p : (upd H' p (.lst [V.int (gI row (i : Int))])) p = some (.lst [V.int (gI row (i : Int))]) := upd_same
            generalize (upd H' p (.lst [V.int (gI row (i : Int))])) = H3 at *
            wtm_at "x"
            rw [show (i : Int) - 1 = ((i - 1 : Nat) : Int) by omega]
            refine hx _ _ _ (by omega) e_p ?_
            refine x_rep1 h_p (by omega) (by omega) ?_
            intro p2 n_p2
            have e_p2 : Ext H3 (upd H3 p2 (.lst (List.replicate (gI row ((i - 1 : Nat) : Int)).toNat (V.int (gI row (i : Int)))))) := Only'.put0 Only'.refl n_p2
            have h_p2 : (upd H3 p2 (.lst (List.replicate (gI row ((i - 1 : Nat) : Int)).toNat (V.int (gI row (i : Int)))))) p2 = some (.lst (List.replicate (gI row ((i - 1 : Nat) : Int)).toNat (V.int (gI row (i : Int))))) := upd_same
            generalize (upd H3 p2 (.lst (List.replicate (gI row ((i - 1 : Nat) : Int)).toNat (V.int (gI row (i : Int)))))) = H4 at *
            have c2 := c.to (e_p.trans e_p2)
            have hh := c2.here
            wtm_at "x"
            refine ⟨_, _, _, _, _, _, rfl, c2.next (o := List.replicate many.toNat (gI row (i : Int))) n_f (by rw [h_p2, hm]; unfold iV; rw [List.map_replicate]) (Ne.symm (ne_of_none (c.to e_p).here n_p2)) ((c.to e_p).ext.free n_p2), rat_next hr hi ht1, fun _ => rfl, fun z => by omega, fun z => by omega, fun z => ?_⟩
            rw [show 2 * ((i + 1) / 2) - 2 = i - 1 by omega, show 2 * ((i + 1) / 2) - 1 = i by omega]
            exact ⟨hm, rfl, by omega⟩
    · rintro σ H' ⟨many, lastN, lastB, rows, ts, v2, rfl, c, hr, i0, i1, i2, i3⟩
      have hs1 := SqL.ext c.ext hs
      have hlen := c.few
      have hrl := rat_len (Nat.le_refl _) hr
      have hsz : (ts.map V.ref).length < sizeLine := by
        rw [List.length_map, hlen, hrl, sizeLine_eq]
        omega
      have ho := rat_end hr
      have he : rend (.runs (row.length : Int) many lastN lastB) = (if many > 0 then .cut else .ok []) := rfl
      rw [he] at ho
      wtm_at "x"
      rw [iV_length]
      refine ite_d (fun hp => ?_) fun hp => ?_
      · obtain ⟨hm, hm0⟩ := i1 (by omega)
        have hmb := gI_by hby (show row.length - 1 < row.length by omega)
        rw [if_pos (by have := hmb.1; omega)] at ho
        wtm_at "x"
        intro t1 n_t1
        have e_t1 : Ext H' (upd H' t1 (.tup [V.str "cut"])) := Only'.put0 Only'.refl n_t1
        have h_t1 : (upd H' t1 (.tup [V.str "cut"])) t1 = some (.tup [V.str "cut"]) := upd_same
        generalize (upd H' t1 (.tup [V.str "cut"])) = H4 at *
        wtm_at "x"
        intro tp n_tp
        have e_tp : Ext H4 (upd H4 tp (.tup [V.ref f, V.ref t1])) := Only'.put0 Only'.refl n_tp
        have h_tp : (upd H4 tp (.tup [V.ref f, V.ref t1])) tp = some (.tup [V.ref f, V.ref t1]) := upd_same
        generalize (upd H4 tp (.tup [V.ref f, V.ref t1])) = H5 at *
        exact c.done n_f (e_t1.trans e_tp) (c.ext.free (e_t1.free n_tp)) h_tp (fo := some .cut) ⟨t1, rfl, e_tp t1 _ h_t1 (by simp)⟩ ho q
      · have hm := i0 (by omega)
        rw [if_neg (by omega)] at ho
        wtm_at "x"
        intro p n_p
        have e_p : Ext H' (upd H' p (.lst [])) := Only'.put0 Only'.refl n_p
        have h_p : (upd H' p (.lst [])) p = some (.lst []) := upd_same
        generalize (upd H' p (.lst [])) = H4 at *
        wtm_at "x"
        refine c.more (x := []) e_p h_p (c.ext.free n_p) hsz fun r H5 c3 e3 hr0 => ?_
        wtm_at "x"
        intro tp n_tp
        have e_tp : Ext H5 (upd H5 tp (.tup [V.ref r, V.non])) := Only'.put0 Only'.refl n_tp
        have h_tp : (upd H5 tp (.tup [V.ref r, V.non])) tp = some (.tup [V.ref r, V.non]) := upd_same
        generalize (upd H5 tp (.tup [V.ref r, V.non])) = H6 at *
        exact c3.done hr0 e_tp (c3.ext.free n_tp) h_tp (fo := none) rfl ho q
theorem ok_law_read_chunks (T : Tx K mg) : DefOk P w K mg base 1 (He.ga K "_law_read_chunks") ["_law_size", "_law_row_here"] (spReadChunks K) := by
  refine def_ok (N := n_law_read_chunks) (fn_law_read_chunks T) sc_law_read_chunks (fun _ _ _ _ _ _ us hl => match us, hl with | [_, _], _ => rfl) (fun vs H Q E h => ?_) (fun cdv A outer s H vs Q E hr h => ?_)
  · obtain ⟨n, a, row, rfl, _⟩ := h
    rfl
  · obtain ⟨n, a, row, rfl, hs, hby, hz, h1, h255, q⟩ := h
    refine ⟨_, [_, _, _, _, _, _], (pss_cons (ps_set (i := 2) sc_law_read_chunks.nd rfl (Or.inl rfl) (pe_lst pa_nil))
      (pss_cons (ps_set (i := 3) sc_law_read_chunks.nd rfl (Or.inl rfl) pe_int)
      (pss_cons (ps_set (i := 4) sc_law_read_chunks.nd rfl (Or.inl rfl) pe_bl)
      (pss_cons (ps_for (passes_of rfl) rfl (pi_range1 rfl (f_range T) (pa_cons (pe_callB call_lenS rfl (f_len T) (by decide +kernel) (pa_cons (pv 1) pa_nil)) pa_nil)) (pg_name (i := 5) sc_law_read_chunks.nd rfl (Or.inl rfl)) (pss_cons (ps_if (PW.pt (pw_and (pt_cmpR op_eq (pv 3) pe_int (nomark _)) (pw_and1 (PW.pt (pw_or (pt_val (pv 4)) (pw_or1 (pt_cmpR op_gt (pe_ix ix_list (pv 1) (pv 5) (fun _ _ => rfl)) (pv 0) (nomark _)))))))) (pss_one (ps_ret (pe_tup (pa_cons (pv 2) (pa_cons (pe_tup (pa_cons pe_str (pa_cons (pv 5) pa_nil))) pa_nil))))) pss_nil)
      (pss_one (ps_if (pt_cmpR op_eq (pv 3) pe_int (nomark _)) (pss_cons (ps_set (i := 3) sc_law_read_chunks.nd rfl (Or.inl rfl) (pe_ix ix_list (pv 1) (pv 5) (fun _ _ => rfl)))
      (pss_cons (ps_set (i := 4) sc_law_read_chunks.nd rfl (Or.inl rfl) (pe_cmpR op_lt (pe_ix ix_list (pv 1) (pv 5) (fun _ _ => rfl)) (pv 0) (nomark _)))
      (pss_one (ps_expr (pe_bm PySem.F.plainAttrs_list PySem.F.slot_list_append PySem.F.type_list_append mt_append (pv 2) (pa_cons (pe_lst pa_nil) pa_nil)))))) (pss_cons (ps_set (i := 3) sc_law_read_chunks.nd rfl (Or.inl rfl) (pe_op op_sub (pv 3) pe_int))
      (pss_one (ps_expr (pe_bm PySem.F.plainAttrs_list PySem.F.slot_list_append PySem.F.type_list_append mt_append (pv 2) (pa_cons (pe_lst (pa_cons (pe_ix ix_list (pv 1) (pv 5) (fun _ _ => rfl)) pa_nil)) pa_nil)))))))))
      (pss_one (ps_ret (pe_ifExp (PW.pt (pw_and (pt_val (pv 4)) (pw_and1 (pt_cmpR op_eq (pv 3) pe_int (nomark _))))) (pe_tup (pa_cons (pe_op op_cat (pv 2) (pe_lst (pa_cons (pe_lst pa_nil) pa_nil))) (pa_cons pe_non pa_nil))) (pe_tup (pa_cons (pv 2) (pa_cons (pe_tup (pa_cons pe_str pa_nil)) pa_nil)))))))))), rfl, ?_⟩
    try dsimp only [cxOf]
    wtm_at "x"
    intro f n_f
    have e_f : Ext H (upd H f (.lst [])) := Only'.put0 Only'.refl n_f
    have h_f : (upd H f (.lst [])) f = some (.lst []) := upd_same
    generalize (upd H f (.lst [])) = H1 at *
    wtm_at "x"
    refine x_len (Or.inl (SqL.ext e_f hs)) ?_
    rw [iV_length]
    wtm_at "x"
    refine x_rForR1 (k := row.length) rfl (by omega) (fun i σ H' => ∃ (left : Int) (last : Bool) (rows : List Row) (ts : List Addr) (v5 : Option V), σ = [some (.int (n : Int)), some (.ref a), some (.ref f), some (.int left), some (.bl last), v5] ∧ AccR H f rows H' ts ∧
      OwnAt (.chunks (n : Int) 0 0 false) row i (.chunks (n : Int) (i : Int) left last) rows ∧ 0 ≤ left) ⟨0, false, [], [], _, rfl, AccR.start h_f e_f, rat_zero _ _, by decide⟩ ?_ ?_
    · rintro i σ H' hi ⟨left, last, rows, ts, v5, rfl, c, hr, l0⟩
      have hs1 := SqL.ext c.ext hs
      have hlen := c.few
      have hrl := rat_len (by omega) hr
      have hsz : (ts.map V.ref).length < sizeLine := by
        rw [List.length_map, hlen, hrl, sizeLine_eq]
        omega
      have hx : ∀ (H3 : Hp) (Q' : VK), Ext H' H3 → Q' (.int (gI row (i : Int))) H3 → rIxL K (.ref a) (.int (i : Int)) H3 Q' := fun H3 Q' e3 k => x_ixL (SqL.ext e3 hs1) (gI_at (by omega) (by omega)) k
      obtain ⟨b0, b1⟩ := gI_by hby hi
      have ht1 : rtake (.chunks (n : Int) (i : Int) left last) (gI row (i : Int)) = (if left > 0 then .ok [gI row (i : Int)] (.chunks (n : Int) ((i : Int) + 1) (left - 1) last)
        else if last = true ∨ gI row (i : Int) > (n : Int) then .wrong (i : Int)
        else .ok [] (.chunks (n : Int) ((i : Int) + 1) (gI row (i : Int)) (decide (gI row (i : Int) < (n : Int))))) := rfl
      wtm_at "x"
      refine x_andK (a := decide (left = 0)) (b := last || decide (gI row (i : Int) > (n : Int))) (fun B' k => ?_) (fun hl B' k => ?_) ?_
      · wtm_at "x"
        exact k
      · refine x_orK (a := last) (b := decide (gI row (i : Int) > (n : Int))) (fun B2 k2 => ?_) (fun _ B2 k2 => ?_) k
        · wtm_at "x"
          exact k2
        · wtm_at "x"
          refine hx _ _ Only'.refl ?_
          wtm_at "x"
          exact k2
      · refine ite_b (fun hc => ?_) fun hc => ?_
        · simp only [Bool.and_eq_true, Bool.or_eq_true, decide_eq_true_eq] at hc
          wtm_at "x"
          intro t1 n_t1
          have e_t1 : Ext H' (upd H' t1 (.tup [V.str "wrong", V.int (i : Int)])) := Only'.put0 Only'.refl n_t1
          have h_t1 : (upd H' t1 (.tup [V.str "wrong", V.int (i : Int)])) t1 = some (.tup [V.str "wrong", V.int (i : Int)]) := upd_same
          generalize (upd H' t1 (.tup [V.str "wrong", V.int (i : Int)])) = H4 at *
          wtm_at "x"
          intro tp n_tp
          have e_tp : Ext H4 (upd H4 tp (.tup [V.ref f, V.ref t1])) := Only'.put0 Only'.refl n_tp
          have h_tp : (upd H4 tp (.tup [V.ref f, V.ref t1])) tp = some (.tup [V.ref f, V.ref t1]) := upd_same
          generalize (upd H4 tp (.tup [V.ref f, V.ref t1])) = H5 at *
          refine c.done n_f (e_t1.trans e_tp) (c.ext.free (e_t1.free n_tp)) h_tp (fo := some (.wrong (i : Int))) ⟨t1, rfl, e_tp t1 _ h_t1 (by simp)⟩ (rat_wrong hr hi ?_) q
          rw [ht1, if_neg (by omega), if_pos hc.2]
        · wtm_at "x"
          refine ite_d (fun hl => ?_) fun hl => ?_
          · have hn : ¬ (last = true ∨ gI row (i : Int) > (n : Int)) := fun z => by
              rw [decide_eq_true hl, Bool.true_and] at hc
              rcases z with z | z
              · rw [z] at hc
                cases hc
              · rw [decide_eq_true z, Bool.or_true] at hc
                cases hc
            rw [if_neg (by omega), if_neg hn] at ht1
            have hh := c.here
            wtm_at "x"
            refine hx _ _ Only'.refl ?_
            wtm_at "x"
            refine hx _ _ Only'.refl ?_
            wtm_at "x"
            intro p n_p
            have e_p : Ext H' (upd H' p (.lst [])) := Only'.put0 Only'.refl n_p
            have h_p : (upd H' p (.lst [])) p = some (.lst []) := upd_same
            generalize (upd H' p (.lst [])) = H3 at *
            have c2 := c.to e_p
            have hh := c2.here
            wtm_at "x"
            exact ⟨_, _, _, _, _, rfl, c2.next (o := []) n_f h_p (Ne.symm (ne_of_none c.here n_p)) (c.ext.free n_p), rat_next hr hi ht1, b0⟩
          · rw [if_pos (by omega)] at ht1
            have hh := c.here
            wtm_at "x"
            refine hx _ _ Only'.refl ?_
            wtm_at "x"
            intro p n_p
            have e_p : Ext H' (upd H' p (.lst [V.int (gI row (i : Int))])) := Only'.put0 Only'.refl n_p
            have h_p : (upd H' p (.lst [V.int (gI row (i : Int))])) p = some (.lst [V.int (gI row (i : Int))]) := upd_same
            generalize (upd H' p (.lst [V.int (gI row (i : Int))])) = H3 at *
            have c2 := c.to e_p
            have hh := c2.here
            wtm_at "x"
            exact ⟨_, _, _, _, _, rfl, c2.next (o := [gI row (i : Int)]) n_f h_p (Ne.symm (ne_of_none c.here n_p)) (c.ext.free n_p), rat_next hr hi ht1, by omega⟩
    · rintro σ H' ⟨left, last, rows, ts, v5, rfl, c, hr, l0⟩
      have hs1 := SqL.ext c.ext hs
      have hlen := c.few
      have hrl := rat_len (Nat.le_refl _) hr
      have hsz : (ts.map V.ref).length < sizeLine := by
        rw [List.length_map, hlen, hrl, sizeLine_eq]
        omega
      have ho := rat_end hr
      have he : rend (.chunks (n : Int) (row.length : Int) left last) = (if left > 0 ∨ ¬ last = true then .cut else .ok []) := rfl
      rw [he] at ho
      wtm_at "x"
      refine x_andK (a := last) (b := decide (left = 0)) (fun B' k => ?_) (fun hl B' k => ?_) ?_
      · wtm_at "x"
        exact k
      · wtm_at "x"
        exact k
      · refine ite_b (fun hc => ?_) fun hc => ?_
        · simp only [Bool.and_eq_true, decide_eq_true_eq] at hc
          rw [if_neg (fun z => by
            rcases z with z | z
            · omega
            · exact z hc.1)] at ho
          wtm_at "x"
          intro p n_p
          have e_p : Ext H' (upd H' p (.lst [])) := Only'.put0 Only'.refl n_p
          have h_p : (upd H' p (.lst [])) p = some (.lst []) := upd_same
          generalize (upd H' p (.lst [])) = H4 at *
          wtm_at "x"
          refine c.more (x := []) e_p h_p (c.ext.free n_p) hsz fun r H5 c3 e3 hr0 => ?_
          wtm_at "x"
          intro tp n_tp
          have e_tp : Ext H5 (upd H5 tp (.tup [V.ref r, V.non])) := Only'.put0 Only'.refl n_tp
          have h_tp : (upd H5 tp (.tup [V.ref r, V.non])) tp = some (.tup [V.ref r, V.non]) := upd_same
          generalize (upd H5 tp (.tup [V.ref r, V.non])) = H6 at *
          exact c3.done hr0 e_tp (c3.ext.free n_tp) h_tp (fo := none) rfl ho q
        · rw [if_pos (by
            cases last with
            | false => exact Or.inr (by decide)
            | true =>
              refine Or.inl ?_
              have : ¬ left = 0 := fun z => by
                rw [decide_eq_true z] at hc
                cases hc
              omega)] at ho
          wtm_at "x"
          intro t1 n_t1
          have e_t1 : Ext H' (upd H' t1 (.tup [V.str "cut"])) := Only'.put0 Only'.refl n_t1
          have h_t1 : (upd H' t1 (.tup [V.str "cut"])) t1 = some (.tup [V.str "cut"]) := upd_same
          generalize (upd H' t1 (.tup [V.str "cut"])) = H4 at *
          wtm_at "x"
          intro tp n_tp
          have e_tp : Ext H4 (upd H4 tp (.tup [V.ref f, V.ref t1])) := Only'.put0 Only'.refl n_tp
          have h_tp : (upd H4 tp (.tup [V.ref f, V.ref t1])) tp = some (.tup [V.ref f, V.ref t1]) := upd_same
          generalize (upd H4 tp (.tup [V.ref f, V.ref t1])) = H5 at *
          exact c.done n_f (e_t1.trans e_tp) (c.ext.free (e_t1.free n_tp)) h_tp (fo := some .cut) ⟨t1, rfl, e_tp t1 _ h_t1 (by simp)⟩ ho q
end
end Flow

namespace Flow
open PySem PySem.Spec PyProof.Rows L2
local macro_rules | `(tactic| wtm_at "x1") => `(tactic| first
  | (with_reducible refine Flow.x_ifT ?_))
/-! ### the law's own reading: checks, signs -/
def spReadChecks (K : PySem.W.Frag) : Sp := fun vs H Q _ => ∃ (n : Nat) (a : Addr) (row : Row), vs = [.int (n : Int), .ref a] ∧ SqL K H a (iV row) ∧ Bys row ∧ row.length ≤ 30000 ∧ 1 ≤ n ∧ n ≤ 255 ∧ ToldF H (own (.checks (n : Int) 0 0 []) row) Q
theorem mod_w {i n : Nat} (h : 1 ≤ n) : (i : Int).fmod ((n : Int) + 2) = ((i % (n + 2) : Nat) : Int) := by
  rw [fmod_pos (by omega)]
  rfl
theorem div_w {i n : Nat} (h : 1 ≤ n) : (i : Int).fdiv ((n : Int) + 2) = ((i / (n + 2) : Nat) : Int) := by
  rw [fdiv_pos (by omega)]
  rfl
section
variable {P : Program} {w : World} {K : PySem.W.Frag} {mg : Str → Option Value} {base : Heap}
theorem ok_law_read_checks (T : Tx K mg) : DefOk P w K mg base 2 (He.ga K "_law_read_checks") ["_law_size", "_law_row_here"] (spReadChecks K) := by
  have D_law_checks := ok_law_checks (P := P) (w := w) (base := base) T
  refine def_ok (N := n_law_read_checks) (fn_law_read_checks T) sc_law_read_checks (fun _ _ _ _ _ _ us hl => match us, hl with | [_, _], _ => rfl) (fun vs H Q E h => ?_) (fun cdv A outer s H vs Q E hr h => ?_)
  · obtain ⟨n, a, row, rfl, _⟩ := h
    rfl
  · obtain ⟨n, a, row, rfl, hs, hby, hz, h1, h255, q⟩ := h
    refine ⟨_, [_, _, _, _, _, _, _, _, _], (pss_cons (ps_set (i := 2) sc_law_read_checks.nd rfl (Or.inl rfl) (pe_lst pa_nil))
      (pss_cons (ps_setLc (i := 3) (own := [("_law_k", 5)]) (g := gName 5) rfl sc_law_read_checks.nd rfl rfl (sw_true rfl rfl rfl (by decide +kernel)) (pi_range1 rfl (f_range T) (pa_cons (pe_callB call_lenS rfl (f_len T) (by decide +kernel) (pa_cons (pv 1) pa_nil)) pa_nil)) (blkOk_by (own := [("_law_k", 5)]) (N := n_law_read_checks) (sc := defScope s_law_read_checks) (by decide +kernel)) (fun _ _ _ _ _ => pg_name (i := 5) sc_law_read_checks.nd rfl (Or.inl rfl)) (fun _ _ _ _ _ => (pts_one (pt_cmpR op_lt (pe_op op_modN (pv 5) (pe_op op_add (pv 0) pe_int)) (pv 0) (nomark _)))) (fun _ _ _ _ _ => (pe_ix (ix_listK K rfl) (pv 1) (pv 5) (fun _ _ => rfl))))
      (pss_cons (ps_set (i := 4) sc_law_read_checks.nd rfl (Or.inl rfl) (pe_fn D_law_checks (g_law_checks T) (hr.mono (by first | decide | omega)) (fun _ => passE) (pa_cons (pv 3) pa_nil)))
      (pss_cons (ps_for (passes_of rfl) rfl (pi_range1 rfl (f_range T) (pa_cons (pe_callB call_lenS rfl (f_len T) (by decide +kernel) (pa_cons (pv 1) pa_nil)) pa_nil)) (pg_name (i := 5) sc_law_read_checks.nd rfl (Or.inl rfl)) (pss_cons (ps_set (i := 6) sc_law_read_checks.nd rfl (Or.inl rfl) (pe_lst pa_nil))
      (pss_cons (ps_if (pt_cmpR op_eq (pe_op op_modN (pv 5) (pe_op op_add (pv 0) pe_int)) (pe_op op_add (pv 0) pe_int) (nomark _)) (pss_cons (ps_set (i := 6) sc_law_read_checks.nd rfl (Or.inl rfl) (pe_slice sl_list (pv 1) (po_some (pe_op op_sub (pe_op op_sub (pv 5) (pv 0)) pe_int)) (po_some (pe_op op_sub (pv 5) pe_int))))
      (pss_one (ps_if (pt_cmpR (op_neD hr.units) (pe_slice sl_list (pv 1) (po_some (pe_op op_sub (pv 5) pe_int)) (po_some (pe_op op_add (pv 5) pe_int))) (pe_ix ix_list (pv 4) (pe_op op_mul (pv 0) (pe_op op_fdivN (pe_op op_add (pv 5) pe_int) (pe_op op_add (pv 0) pe_int))) (fun _ _ => rfl)) (nomark _)) (pss_one (ps_ret (pe_tup (pa_cons (pv 2) (pa_cons (pe_tup (pa_cons pe_str (pa_cons (pv 5) pa_nil))) pa_nil))))) pss_nil))) pss_nil)
      (pss_one (ps_expr (pe_bm PySem.F.plainAttrs_list PySem.F.slot_list_append PySem.F.type_list_append mt_append (pv 2) (pa_cons (pv 6) pa_nil)))))))
      (pss_cons (ps_set (i := 7) sc_law_read_checks.nd rfl (Or.inl rfl) (pe_op op_modN (pe_callB call_lenS rfl (f_len T) (by decide +kernel) (pa_cons (pv 1) pa_nil)) (pe_op op_add (pv 0) pe_int)))
      (pss_cons (ps_if (pt_cmpR op_lt (pv 7) pe_int (nomark _)) (pss_one (ps_ret (pe_tup (pa_cons (pv 2) (pa_cons (pe_tup (pa_cons pe_str pa_nil)) pa_nil))))) pss_nil)
      (pss_cons (ps_set (i := 8) sc_law_read_checks.nd rfl (Or.inl rfl) (pe_slice sl_list (pv 1) (po_some (pe_op op_sub (pe_callB call_lenS rfl (f_len T) (by decide +kernel) (pa_cons (pv 1) pa_nil)) (pv 7))) (po_some (pe_op op_sub (pe_callB call_lenS rfl (f_len T) (by decide +kernel) (pa_cons (pv 1) pa_nil)) pe_int))))
      (pss_cons (ps_set (i := 3) sc_law_read_checks.nd rfl (Or.inl rfl) (pe_op op_cat (pe_slice sl_list (pv 3) po_none (po_some (pe_op op_mul (pv 0) (pe_op op_fdivN (pe_callB call_lenS rfl (f_len T) (by decide +kernel) (pa_cons (pv 1) pa_nil)) (pe_op op_add (pv 0) pe_int))))) (pv 8)))
      (pss_cons (ps_if (pt_cmpR (op_neD hr.units) (pe_slice sl_list (pv 1) (po_some (pe_un un_neg pe_int)) po_none) (pe_ix ix_list (pe_fn D_law_checks (g_law_checks T) (hr.mono (by first | decide | omega)) (fun _ => passE) (pa_cons (pv 3) pa_nil)) (pe_un un_neg pe_int) (fun _ _ => rfl)) (nomark _)) (pss_one (ps_ret (pe_tup (pa_cons (pv 2) (pa_cons (pe_tup (pa_cons pe_str (pa_cons (pe_op op_sub (pe_callB call_lenS rfl (f_len T) (by decide +kernel) (pa_cons (pv 1) pa_nil)) pe_int) pa_nil))) pa_nil))))) pss_nil)
      (pss_one (ps_ret (pe_tup (pa_cons (pe_op op_cat (pv 2) (pe_lst (pa_cons (pv 8) pa_nil))) (pa_cons pe_non pa_nil)))))))))))))), rfl, ?_⟩
    try dsimp only [cxOf]
    wtm_at "x"
    intro f n_f
    have e_f : Ext H (upd H f (.lst [])) := Only'.put0 Only'.refl n_f
    have h_f : (upd H f (.lst [])) f = some (.lst []) := upd_same
    generalize (upd H f (.lst [])) = H1 at *
    have hsf := SqL.ext e_f hs
    wtm_at "x"
    rw [iV_length]
    refine x_rLcRT (k := row.length) (fun k => decide (k % (n + 2) < n)) (fun k => V.int (gI row (k : Int))) rfl (by omega) (fun _ => rfl) (fun k H2 hk e B kk => ?_) (fun k H2 hk hc e Q' kk => ?_) fun pd H2 hpd0 e2 hpd => ?_
    · wtm_at "x"
      rw [mod_w h1, show decide (((k % (n + 2) : Nat) : Int) < (n : Int)) = decide (k % (n + 2) < n) from by
        by_cases z : k % (n + 2) < n
        · rw [decide_eq_true z, decide_eq_true (by omega)]
        · rw [decide_eq_false z, decide_eq_false (by omega)]]
      exact kk _ Only'.refl
    · wtm_at "x"
      refine x_ixL (SqL.ext e hsf) (gI_at (by omega) (by omega)) ?_
      exact kk _ Only'.refl
    rw [gvn_ints] at hpd
    have hpd' : H2 pd = some (.lst (iV (dataOf row n))) := hpd
    have hdl := data_len row n
    wtm_at "x"
    refine ⟨pd, dataOf row n, rfl, SqL.of hpd', by omega, fun H3 ck cts e3 hck0 hck hcr hcn => ?_⟩
    have hf3 := (e2.trans e3) f _ h_f (by simp)
    have e03 := (e_f.trans e2).trans e3
    have hs3 := SqL.ext e03 hs
    have hckf : ck ≠ f := fun z => by
      rw [z, e2 f _ h_f (by simp)] at hck0
      cases hck0
    have hctf : ∀ t, t ∈ cts → t ≠ f := fun t ht z => by
      have := hcn t ht
      rw [z, e2 f _ h_f (by simp)] at this
      cases this
    have hcl : cts.length = (dataOf row n).length + 1 := by
      rw [hcr.len, List.length_map]
      exact scan_len 0 _
    wtm_at "x"
    rw [iV_length]
    refine x_rForR1 (k := row.length) rfl (by omega) (fun i σ H' => ∃ (rows : List Row) (ts : List Addr) (v5 v6 v7 v8 : Option V), σ = [some (.int (n : Int)), some (.ref a), some (.ref f), some (.ref pd), some (.ref ck), v5, v6, v7, v8] ∧ AccR H f rows H' ts ∧
      OwnAt (.checks (n : Int) 0 0 []) row i (.checks (n : Int) (i : Int) (ckAt row n i) (heldAt row n i)) rows ∧ H' pd = some (.lst (iV (dataOf row n))) ∧ H' ck = some (.lst (cts.map V.ref)) ∧ RowsIn H' cts ((chk (dataOf row n)).map checkBytes)) ⟨[], [], _, _, _, _, rfl, AccR.start hf3 e03, ?_, e3 pd _ hpd' (by simp), hck, hcr⟩ ?_ ?_
    · have e1 : ckAt row n 0 = 0 := by
        unfold ckAt
        rw [Nat.zero_div]
        rfl
      have e2 : heldAt row n 0 = [] := by
        unfold heldAt
        rw [List.take_zero, List.drop_nil]
      rw [e1, e2]
      exact rat_zero _ _
    · rintro i σ H' hi ⟨rows, ts, v5, v6, v7, v8, rfl, c, hr, hpd4, hck4, hcr4⟩
      have hs1 := SqL.ext c.ext hs
      have hlen := c.few
      have hrl := rat_len (by omega) hr
      have hsz : (ts.map V.ref).length < sizeLine := by
        rw [List.length_map, hlen, hrl, sizeLine_eq]
        omega
      have hpdf : pd ≠ f := Ne.symm (ne_of_none h_f hpd0)
      have hh := c.here
      wtm_at "x"
      intro p n_p
      have e_p : Ext H' (upd H' p (.lst [])) := Only'.put0 Only'.refl n_p
      have h_p : (upd H' p (.lst [])) p = some (.lst []) := upd_same
      generalize (upd H' p (.lst [])) = H4 at *
      have c1 := c.to e_p
      have hs4 := SqL.ext e_p hs1
      have hh4 := c1.here
      wtm_at "x"
      rw [mod_w h1, show decide (((i % (n + 2) : Nat) : Int) = (n : Int) + 1) = decide (i % (n + 2) + 1 = n + 2) from by
        by_cases z : i % (n + 2) + 1 = n + 2
        · rw [decide_eq_true z, decide_eq_true (by omega)]
        · rw [decide_eq_false z, decide_eq_false (by omega)]]
      have hml := Nat.mod_le i (n + 2)
      rcases checks_step hi h1 with ⟨c9, ht, hdl2⟩ | ⟨c9, ht⟩
      · refine ite_d (fun _ => ?_) fun z => absurd c9 z
        wtm_at "x"
        rw [cut_both (i := i - n - 1) (k := i - 1) (by omega) (by omega)]
        have ecut : ((iV row).drop (i - n - 1)).take (i - 1 - (i - n - 1)) = iV ((row.drop (i - n - 1)).take n) := by
          have e1 : i - 1 - (i - n - 1) = n := by omega
          rw [e1]
          unfold iV
          rw [← List.map_drop, ← List.map_take]
        rw [ecut]
        intro p2 n_p2
        have e_p2 : Ext H4 (upd H4 p2 (.lst (iV ((row.drop (i - n - 1)).take n)))) := Only'.put0 Only'.refl n_p2
        have h_p2 : (upd H4 p2 (.lst (iV ((row.drop (i - n - 1)).take n)))) p2 = some (.lst (iV ((row.drop (i - n - 1)).take n))) := upd_same
        generalize (upd H4 p2 (.lst (iV ((row.drop (i - n - 1)).take n)))) = H5 at *
        have hs5 := SqL.ext e_p2 hs4
        wtm_at "x"
        rw [cut_both (i := i - 1) (k := i + 1) (by omega) (by omega)]
        have ecut2 : ((iV row).drop (i - 1)).take (i + 1 - (i - 1)) = iV ((row.drop (i - 1)).take 2) := by
          have e1 : i + 1 - (i - 1) = 2 := by omega
          rw [e1]
          unfold iV
          rw [← List.map_drop, ← List.map_take]
        rw [ecut2]
        intro p3 n_p3
        have e_p3 : Ext H5 (upd H5 p3 (.lst (iV ((row.drop (i - 1)).take 2)))) := Only'.put0 Only'.refl n_p3
        have h_p3 : (upd H5 p3 (.lst (iV ((row.drop (i - 1)).take 2)))) p3 = some (.lst (iV ((row.drop (i - 1)).take 2))) := upd_same
        generalize (upd H5 p3 (.lst (iV ((row.drop (i - 1)).take 2)))) = H6 at *
        have e46 := (e_p.trans e_p2).trans e_p3
        wtm_at "x"
        have edv : ((i : Int) + 1).fdiv ((n : Int) + 2) = (((i + 1) / (n + 2) : Nat) : Int) := div_w (i := i + 1) h1
        rw [edv, show (n : Int) * (((i + 1) / (n + 2) : Nat) : Int) = ((n * ((i + 1) / (n + 2)) : Nat) : Int) from rfl]
        obtain ⟨ct, hct, hcv⟩ := (hcr4.ext e46).get (i := n * ((i + 1) / (n + 2))) (r := checkBytes (checkAll 0 ((dataOf row n).take (n * ((i + 1) / (n + 2)))))) (by
          rw [List.getElem?_map]
          unfold chk
          rw [scan_get 0 _ _ hdl2]
          rfl)
        refine x_ixL (SqL.of (e46 ck _ hck4 (by simp))) (v := .ref ct) (at_of rfl (by rw [List.getElem?_map, hct]; rfl)) ?_
        wtm_at "x"
        refine x_neD (dp_row (SqL.of h_p3)) (dp_row (SqL.of hcv)) (row_shaped _) (row_shaped _) ?_
        rw [row_eqv]
        wtm_at "x"
        refine ite_nd (fun hne => ?_) fun heq => ?_
        · rw [if_neg hne] at ht
          wtm_at "x"
          intro t1 n_t1
          have e_t1 : Ext H6 (upd H6 t1 (.tup [V.str "wrong", V.int (i : Int)])) := Only'.put0 Only'.refl n_t1
          have h_t1 : (upd H6 t1 (.tup [V.str "wrong", V.int (i : Int)])) t1 = some (.tup [V.str "wrong", V.int (i : Int)]) := upd_same
          generalize (upd H6 t1 (.tup [V.str "wrong", V.int (i : Int)])) = H7 at *
          wtm_at "x"
          intro tp n_tp
          have e_tp : Ext H7 (upd H7 tp (.tup [V.ref f, V.ref t1])) := Only'.put0 Only'.refl n_tp
          have h_tp : (upd H7 tp (.tup [V.ref f, V.ref t1])) tp = some (.tup [V.ref f, V.ref t1]) := upd_same
          generalize (upd H7 tp (.tup [V.ref f, V.ref t1])) = H8 at *
          exact c.done n_f ((e46.trans e_t1).trans e_tp) (c.ext.free ((e46.trans e_t1).free n_tp)) h_tp (fo := some (.wrong (i : Int))) ⟨t1, rfl, e_tp t1 _ h_t1 (by simp)⟩ (rat_wrong hr hi ht) q
        · rw [if_pos heq] at ht
          have c3 := c.to e46
          have hh3 := c3.here
          wtm_at "x"
          exact ⟨_, _, _, _, _, _, rfl, c3.next (o := (row.drop (i - n - 1)).take n) n_f (e_p3 p2 _ h_p2 (by simp)) (Ne.symm (ne_of_none c1.here n_p2)) (c1.ext.free n_p2), rat_next hr hi ht, upd_get hpdf (e46 pd _ hpd4 (by simp)), upd_get hckf (e46 ck _ hck4 (by simp)), (hcr4.ext e46).put hctf⟩
      · refine ite_d (fun z => absurd z (by omega)) fun _ => ?_
        wtm_at "x"
        exact ⟨_, _, _, _, _, _, rfl, c1.next (o := []) n_f h_p (Ne.symm (ne_of_none c.here n_p)) (c.ext.free n_p), rat_next hr hi ht, upd_get hpdf (e_p pd _ hpd4 (by simp)), upd_get hckf (e_p ck _ hck4 (by simp)), (hcr4.ext e_p).put hctf⟩
    · rintro σ H' ⟨rows, ts, v5, v6, v7, v8, rfl, c, hr, hpd4, hck4, hcr4⟩
      have hs1 := SqL.ext c.ext hs
      have hlen := c.few
      have hrl := rat_len (Nat.le_refl _) hr
      have hsz : (ts.map V.ref).length < sizeLine := by
        rw [List.length_map, hlen, hrl, sizeLine_eq]
        omega
      have ho := rat_end hr
      rw [checks_rend row n h1] at ho
      have hml := Nat.mod_le row.length (n + 2)
      have hmd := Nat.mul_div_le row.length (n + 2)
      wtm_at "x"
      rw [iV_length, mod_w h1]
      wtm_at "x"
      refine ite_d (fun h2 => ?_) fun h2 => ?_
      · rw [if_pos (by omega)] at ho
        wtm_at "x"
        intro t1 n_t1
        have e_t1 : Ext H' (upd H' t1 (.tup [V.str "cut"])) := Only'.put0 Only'.refl n_t1
        have h_t1 : (upd H' t1 (.tup [V.str "cut"])) t1 = some (.tup [V.str "cut"]) := upd_same
        generalize (upd H' t1 (.tup [V.str "cut"])) = H4 at *
        wtm_at "x"
        intro tp n_tp
        have e_tp : Ext H4 (upd H4 tp (.tup [V.ref f, V.ref t1])) := Only'.put0 Only'.refl n_tp
        have h_tp : (upd H4 tp (.tup [V.ref f, V.ref t1])) tp = some (.tup [V.ref f, V.ref t1]) := upd_same
        generalize (upd H4 tp (.tup [V.ref f, V.ref t1])) = H5 at *
        exact c.done n_f (e_t1.trans e_tp) (c.ext.free (e_t1.free n_tp)) h_tp (fo := some .cut) ⟨t1, rfl, e_tp t1 _ h_t1 (by simp)⟩ ho q
      · rw [if_neg (by omega)] at ho
        wtm_at "x"
        rw [iV_length, cut_both (i := row.length - row.length % (n + 2)) (k := row.length - 2) (by omega) (by omega)]
        have ecut : ((iV row).drop (row.length - row.length % (n + 2))).take (row.length - 2 - (row.length - row.length % (n + 2))) = iV ((row.drop (row.length - row.length % (n + 2))).take (row.length % (n + 2) - 2)) := by
          have e1 : row.length - 2 - (row.length - row.length % (n + 2)) = row.length % (n + 2) - 2 := by omega
          rw [e1]
          unfold iV
          rw [← List.map_drop, ← List.map_take]
        rw [ecut]
        obtain ⟨rest, hrest⟩ : ∃ rest, rest = (row.drop (row.length - row.length % (n + 2))).take (row.length % (n + 2) - 2) := ⟨_, rfl⟩
        rw [← hrest] at ho ⊢
        have hrs : rest.length ≤ row.length := by
          rw [hrest, List.length_take, List.length_drop]
          omega
        intro pr n_pr
        have e_pr : Ext H' (upd H' pr (.lst (iV rest))) := Only'.put0 Only'.refl n_pr
        have h_pr : (upd H' pr (.lst (iV rest))) pr = some (.lst (iV rest)) := upd_same
        generalize (upd H' pr (.lst (iV rest))) = H4 at *
        have hs4 := SqL.ext e_pr hs1
        have hpd5 := e_pr pd _ hpd4 (by simp)
        wtm_at "x"
        rw [iV_length, div_w h1, show (n : Int) * ((row.length / (n + 2) : Nat) : Int) = ((n * (row.length / (n + 2)) : Nat) : Int) from rfl, cutI_to]
        intro p2 n_p2
        have e_p2 : Ext H4 (upd H4 p2 (.lst (iV ((dataOf row n).take (n * (row.length / (n + 2))))))) := Only'.put0 Only'.refl n_p2
        have h_p2 : (upd H4 p2 (.lst (iV ((dataOf row n).take (n * (row.length / (n + 2))))))) p2 = some (.lst (iV ((dataOf row n).take (n * (row.length / (n + 2)))))) := upd_same
        generalize (upd H4 p2 (.lst (iV ((dataOf row n).take (n * (row.length / (n + 2))))))) = H5 at *
        have hpr5 := e_p2 pr _ h_pr (by simp)
        have htl : ((dataOf row n).take (n * (row.length / (n + 2)))).length ≤ row.length := by
          rw [List.length_take]
          omega
        wtm_at "x"
        refine x_cat h_p2 hpr5 (by rw [iV_length, iV_length, sizeLine_eq]; omega) ?_
        intro p3 n_p3
        have e_p3 : Ext H5 (upd H5 p3 (.lst (iV ((dataOf row n).take (n * (row.length / (n + 2)))) ++ iV rest))) := Only'.put0 Only'.refl n_p3
        have h_p3 : (upd H5 p3 (.lst (iV ((dataOf row n).take (n * (row.length / (n + 2)))) ++ iV rest))) p3 = some (.lst (iV ((dataOf row n).take (n * (row.length / (n + 2)))) ++ iV rest)) := upd_same
        generalize (upd H5 p3 (.lst (iV ((dataOf row n).take (n * (row.length / (n + 2)))) ++ iV rest))) = H6 at *
        rw [← iV_append] at h_p3
        have e36 := (e_pr.trans e_p2).trans e_p3
        have hs6 := SqL.ext e36 hs1
        wtm_at "x"
        have ecut3 : cutV (iV row) (some (-2)) none = iV (row.drop (row.length - 2)) := by
          have e1 : cutV (iV row) (some (-((2 : Nat) : Int))) none = (iV row).drop ((iV row).length - 2) := cut_fromN (by decide)
          rw [iV_length] at e1
          refine e1.trans ?_
          unfold iV
          rw [← List.map_drop]
        rw [ecut3]
        intro p4 n_p4
        have e_p4 : Ext H6 (upd H6 p4 (.lst (iV (row.drop (row.length - 2))))) := Only'.put0 Only'.refl n_p4
        have h_p4 : (upd H6 p4 (.lst (iV (row.drop (row.length - 2))))) p4 = some (.lst (iV (row.drop (row.length - 2)))) := upd_same
        generalize (upd H6 p4 (.lst (iV (row.drop (row.length - 2))))) = H7 at *
        wtm_at "x"
        refine ⟨p3, _, rfl, SqL.of (e_p4 p3 _ h_p3 (by simp)), by rw [List.length_append]; omega, fun H8 ck2 cts2 e8 hck20 hck2 hcr2 hcn2 => ?_⟩
        obtain ⟨D, hD⟩ : ∃ D, D = (dataOf row n).take (n * (row.length / (n + 2))) ++ rest := ⟨_, rfl⟩
        rw [← hD] at ho hcr2
        have hcl2 : cts2.length = D.length + 1 := by
          rw [hcr2.len, List.length_map]
          exact scan_len 0 _
        obtain ⟨ct, hct, hcv⟩ := hcr2.get (i := D.length) (r := checkBytes (checkAll 0 D)) (by
          rw [List.getElem?_map]
          unfold chk
          rw [scan_get 0 _ _ (Nat.le_refl _), List.take_length]
          rfl)
        wtm_at "x"
        refine x_ixL (SqL.of hck2) (v := .ref ct) (at_neg (xs := cts2.map V.ref) (j := D.length) (by rw [List.length_map, hcl2]) (by rw [List.getElem?_map, hct]; rfl)) ?_
        wtm_at "x"
        refine x_neD (dp_row (SqL.of (e8 p4 _ h_p4 (by simp)))) (dp_row (SqL.of hcv)) (row_shaped _) (row_shaped _) ?_
        rw [row_eqv]
        have e38 := (e36.trans e_p4).trans e8
        have hs8 := SqL.ext e38 hs1
        wtm_at "x"
        refine ite_nd (fun hne => ?_) fun heq => ?_
        · rw [if_neg hne] at ho
          wtm_at "x"
          rw [iV_length]
          intro t1 n_t1
          have e_t1 : Ext H8 (upd H8 t1 (.tup [V.str "wrong", V.int ((row.length : Int) - 1)])) := Only'.put0 Only'.refl n_t1
          have h_t1 : (upd H8 t1 (.tup [V.str "wrong", V.int ((row.length : Int) - 1)])) t1 = some (.tup [V.str "wrong", V.int ((row.length : Int) - 1)]) := upd_same
          generalize (upd H8 t1 (.tup [V.str "wrong", V.int ((row.length : Int) - 1)])) = H9 at *
          wtm_at "x"
          intro tp n_tp
          have e_tp : Ext H9 (upd H9 tp (.tup [V.ref f, V.ref t1])) := Only'.put0 Only'.refl n_tp
          have h_tp : (upd H9 tp (.tup [V.ref f, V.ref t1])) tp = some (.tup [V.ref f, V.ref t1]) := upd_same
          generalize (upd H9 tp (.tup [V.ref f, V.ref t1])) = HA at *
          exact c.done n_f ((e38.trans e_t1).trans e_tp) (c.ext.free ((e38.trans e_t1).free n_tp)) h_tp (fo := some (.wrong ((row.length : Int) - 1))) ⟨t1, rfl, e_tp t1 _ h_t1 (by simp)⟩ ho q
        · rw [if_pos heq] at ho
          wtm_at "x"
          refine (c.to e38).more (x := rest) Only'.refl (((e_p2.trans e_p3).trans e_p4).trans e8 pr _ h_pr (by simp)) (c.ext.free n_pr) hsz fun r H9 c3 e3 hr0 => ?_
          wtm_at "x"
          intro tp n_tp
          have e_tp : Ext H9 (upd H9 tp (.tup [V.ref r, V.non])) := Only'.put0 Only'.refl n_tp
          have h_tp : (upd H9 tp (.tup [V.ref r, V.non])) tp = some (.tup [V.ref r, V.non]) := upd_same
          generalize (upd H9 tp (.tup [V.ref r, V.non])) = HA at *
          exact c3.done hr0 e_tp (c3.ext.free n_tp) h_tp (fo := none) rfl ho q
theorem signs_in {b : Int} (h : b ∈ signsT) : 0 ≤ (signsT.idxOf b : Int) ∧ (signsT.idxOf b : Int) < 64 := by
  have : signsT.idxOf b < signsT.length := List.idxOf_lt_length_of_mem h
  have e : signsT.length = 64 := by decide +kernel
  omega
theorem ok_law_read_signs (T : Tx K mg) : DefOk P w K mg base 2 (He.ga K "_law_read_signs") ["_law_row_here"] (spReadRow (.signs 0 0 0) K) := by
  have D_law_signs := ok_law_signs (P := P) (w := w) (base := base) T
  have D_law_bits := ok_law_bits (P := P) (w := w) (base := base) T
  have D_law_groups := ok_law_groups (P := P) (w := w) (base := base) T
  refine def_ok (N := n_law_read_signs) (fn_law_read_signs T) sc_law_read_signs (fun _ _ _ _ _ _ us hl => match us, hl with | [_], _ => rfl) (fun vs H Q E h => ?_) (fun cdv A outer s H vs Q E hr h => ?_)
  · obtain ⟨a, row, rfl, _⟩ := h
    rfl
  · obtain ⟨a, row, rfl, hs, hby, hz, q⟩ := h
    refine ⟨_, [_, _, _, _, _], (pss_cons (ps_set (i := 1) sc_law_read_signs.nd rfl (Or.inl rfl) (pe_lst pa_nil))
      (pss_cons (ps_set (i := 2) sc_law_read_signs.nd rfl (Or.inl rfl) (pe_lst pa_nil))
      (pss_cons (ps_for (passes_of rfl) rfl (pi_range1 rfl (f_range T) (pa_cons (pe_callB call_lenS rfl (f_len T) (by decide +kernel) (pa_cons (pv 0) pa_nil)) pa_nil)) (pg_name (i := 3) sc_law_read_signs.nd rfl (Or.inl rfl)) (pss_cons (ps_if (pt_cmpR op_notIn_seq (pe_ix ix_list (pv 0) (pv 3) (fun _ _ => rfl)) (pe_fn0 D_law_signs (g_law_signs T) (hr.mono (by first | decide | omega)) (fun _ => passE)) (by rfl)) (pss_one (ps_ret (pe_tup (pa_cons (pv 1) (pa_cons (pe_tup (pa_cons pe_str (pa_cons (pv 3) pa_nil))) pa_nil))))) pss_nil)
      (pss_cons (ps_set (i := 4) sc_law_read_signs.nd rfl (Or.inl rfl) (pe_op op_fdiv (pe_callB call_lenS rfl (f_len T) (by decide +kernel) (pa_cons (pv 2) pa_nil)) pe_int))
      (pss_cons (ps_set (i := 2) sc_law_read_signs.nd rfl (Or.inl rfl) (pe_op op_cat (pv 2) (pe_fn D_law_bits (g_law_bits T) (hr.mono (by first | decide | omega)) (fun _ => passE) (pa_cons (pe_lst (pa_cons (pe_bm PySem.F.plainAttrs_list PySem.F.slot_list_index PySem.F.type_list_index mt_index (pe_fn0 D_law_signs (g_law_signs T) (hr.mono (by first | decide | omega)) (fun _ => passE)) (pa_cons (pe_ix ix_list (pv 0) (pv 3) (fun _ _ => rfl)) pa_nil)) pa_nil)) (pa_cons pe_int pa_nil)))))
      (pss_one (ps_expr (pe_bm PySem.F.plainAttrs_list PySem.F.slot_list_append PySem.F.type_list_append mt_append (pv 1) (pa_cons (pe_slice sl_list (pe_fn D_law_groups (g_law_groups T) (hr.mono (by first | decide | omega)) (fun _ => passE) (pa_cons (pv 2) (pa_cons pe_int pa_nil))) (po_some (pv 4)) po_none) pa_nil))))))))
      (pss_cons (ps_if (pt_cmpR op_eq (pe_op op_mod (pe_callB call_lenS rfl (f_len T) (by decide +kernel) (pa_cons (pv 0) pa_nil)) pe_int) pe_int (nomark _)) (pss_one (ps_ret (pe_tup (pa_cons (pv 1) (pa_cons (pe_tup (pa_cons pe_str pa_nil)) pa_nil))))) pss_nil)
      (pss_cons (ps_if (pt_cmpR op_gt (pe_callB (cr_sum rfl) rfl (f_sum T) (by decide +kernel) (pa_cons (pe_slice sl_list (pv 2) (po_some (pe_op op_mul (pe_op op_fdiv (pe_callB call_lenS rfl (f_len T) (by decide +kernel) (pa_cons (pv 2) pa_nil)) pe_int) pe_int)) po_none) pa_nil)) pe_int (nomark _)) (pss_one (ps_ret (pe_tup (pa_cons (pv 1) (pa_cons (pe_tup (pa_cons pe_str (pa_cons (pe_op op_sub (pe_callB call_lenS rfl (f_len T) (by decide +kernel) (pa_cons (pv 0) pa_nil)) pe_int) pa_nil))) pa_nil))))) pss_nil)
      (pss_one (ps_ret (pe_tup (pa_cons (pe_op op_cat (pv 1) (pe_lst (pa_cons (pe_lst pa_nil) pa_nil))) (pa_cons pe_non pa_nil)))))))))), rfl, ?_⟩
    try dsimp only [cxOf]
    wtm_at "x"
    intro f n_f
    have e_f : Ext H (upd H f (.lst [])) := Only'.put0 Only'.refl n_f
    have h_f : (upd H f (.lst [])) f = some (.lst []) := upd_same
    generalize (upd H f (.lst [])) = H1 at *
    wtm_at "x"
    intro b0 n_b0
    have e_b0 : Ext H1 (upd H1 b0 (.lst [])) := Only'.put0 Only'.refl n_b0
    have h_b0 : (upd H1 b0 (.lst [])) b0 = some (.lst []) := upd_same
    generalize (upd H1 b0 (.lst [])) = H2 at *
    have hsf := SqL.ext (e_f.trans e_b0) hs
    wtm_at "x"
    rw [iV_length]
    refine x_rForR1 (k := row.length) rfl (by omega) (fun i σ H' => ∃ (many value : Int) (B : Row) (bl : Addr) (rows : List Row) (ts : List Addr) (v3 v4 : Option V), σ = [some (.ref a), some (.ref f), some (.ref bl), v3, v4] ∧ AccR H f rows H' ts ∧
      OwnAt (.signs 0 0 0) row i (.signs (i : Int) many value) rows ∧ SgAt B many value ∧ B.length = 6 * i ∧ H' bl = some (.lst (iV B)) ∧ bl ≠ f) ⟨0, 0, [], b0, [], [], _, _, rfl, AccR.start (e_b0 f _ h_f (by simp)) (e_f.trans e_b0), rat_zero _ _, sg_start, rfl, h_b0, Ne.symm (ne_of_none h_f n_b0)⟩ ?_ ?_
    · rintro i σ H' hi ⟨many, value, B, bl, rows, ts, v3, v4, rfl, c, hr, sg, hB, hbl, hblf⟩
      have hs1 := SqL.ext c.ext hs
      have hlen := c.few
      have hrl := rat_len (by omega) hr
      have hsz : (ts.map V.ref).length < sizeLine := by
        rw [List.length_map, hlen, hrl, sizeLine_eq]
        omega
      have hx : ∀ (H3 : Hp) (Q' : VK), Ext H' H3 → Q' (.int (gI row (i : Int))) H3 → rIxL K (.ref a) (.int (i : Int)) H3 Q' := fun H3 Q' e3 k => x_ixL (SqL.ext e3 hs1) (gI_at (by omega) (by omega)) k
      have ht1 : rtake (.signs (i : Int) many value) (gI row (i : Int)) = (if gI row (i : Int) ∈ signsT then
          if many + 6 < 8 then .ok [] (.signs ((i : Int) + 1) (many + 6) (value * 64 + (signsT.idxOf (gI row (i : Int)) : Int)))
          else .ok [(value * 64 + (signsT.idxOf (gI row (i : Int)) : Int)) / pow2 (many - 2)] (.signs ((i : Int) + 1) (many - 2) ((value * 64 + (signsT.idxOf (gI row (i : Int)) : Int)) % pow2 (many - 2)))
        else .wrong (i : Int)) := rfl
      wtm_at "x"
      refine hx _ _ Only'.refl ?_
      wtm_at "x"
      refine ⟨rfl, fun H3 g1 e3 hg10 hg1 => ?_⟩
      refine x_ninI (Or.inl (SqL.of hg1)) ?_
      wtm_at "x"
      refine ite_nd (fun hno => ?_) fun hin => ?_
      · rw [if_neg hno] at ht1
        wtm_at "x"
        intro t1 n_t1
        have e_t1 : Ext H3 (upd H3 t1 (.tup [V.str "wrong", V.int (i : Int)])) := Only'.put0 Only'.refl n_t1
        have h_t1 : (upd H3 t1 (.tup [V.str "wrong", V.int (i : Int)])) t1 = some (.tup [V.str "wrong", V.int (i : Int)]) := upd_same
        generalize (upd H3 t1 (.tup [V.str "wrong", V.int (i : Int)])) = H4 at *
        wtm_at "x"
        intro tp n_tp
        have e_tp : Ext H4 (upd H4 tp (.tup [V.ref f, V.ref t1])) := Only'.put0 Only'.refl n_tp
        have h_tp : (upd H4 tp (.tup [V.ref f, V.ref t1])) tp = some (.tup [V.ref f, V.ref t1]) := upd_same
        generalize (upd H4 tp (.tup [V.ref f, V.ref t1])) = H5 at *
        exact c.done n_f ((e3.trans e_t1).trans e_tp) (c.ext.free ((e3.trans e_t1).free n_tp)) h_tp (fo := some (.wrong (i : Int))) ⟨t1, rfl, e_tp t1 _ h_t1 (by simp)⟩ (rat_wrong hr hi ht1) q
      · rw [if_pos hin] at ht1
        obtain ⟨x0, x64⟩ := signs_in hin
        have hbl3 := e3 bl _ hbl (by simp)
        wtm_at "x"
        rw [iV_length, show (B.length : Int) / 8 = ((B.length / 8 : Nat) : Int) from rfl]
        wtm_at "x"
        refine ⟨rfl, fun H4 g2 e4 hg20 hg2 => ?_⟩
        wtm_at "x"
        refine hx _ _ (e3.trans e4) ?_
        wtm_at "x"
        refine x_index (SqL.of hg2) hin ?_
        wtm_at "x"
        intro l1 n_l1
        have e_l1 : Ext H4 (upd H4 l1 (.lst [V.int (signsT.idxOf (gI row (i : Int)) : Int)])) := Only'.put0 Only'.refl n_l1
        have h_l1 : (upd H4 l1 (.lst [V.int (signsT.idxOf (gI row (i : Int)) : Int)])) l1 = some (.lst [V.int (signsT.idxOf (gI row (i : Int)) : Int)]) := upd_same
        generalize (upd H4 l1 (.lst [V.int (signsT.idxOf (gI row (i : Int)) : Int)])) = H5 at *
        wtm_at "x"
        refine ⟨l1, [(signsT.idxOf (gI row (i : Int)) : Int)], 6, rfl, SqL.of h_l1, by decide, by simp, fun H6 g3 e6 hg30 hg3 => ?_⟩
        have hb6 : bitsOf 6 [(signsT.idxOf (gI row (i : Int)) : Int)] = bits1 6 (signsT.idxOf (gI row (i : Int)) : Int) := by
          rw [bitsOf_cons]
          exact List.append_nil _
        rw [hb6] at hg3
        generalize (signsT.idxOf (gI row (i : Int)) : Int) = x at *
        have e36 := ((e3.trans e4).trans e_l1).trans e6
        have hl6 : (B ++ bits1 6 x).length = 6 * (i + 1) := by
          rw [List.length_append, bits1_len, hB]
          omega
        have hl6' := hl6
        rw [List.length_append] at hl6'
        refine x_cat (e36 bl _ hbl (by simp)) hg3 (by rw [iV_length, iV_length, sizeLine_eq]; omega) ?_
        intro b2 n_b2
        have e_b2 : Ext H6 (upd H6 b2 (.lst (iV B ++ iV (bits1 6 x)))) := Only'.put0 Only'.refl n_b2
        have h_b2 : (upd H6 b2 (.lst (iV B ++ iV (bits1 6 x)))) b2 = some (.lst (iV B ++ iV (bits1 6 x))) := upd_same
        generalize (upd H6 b2 (.lst (iV B ++ iV (bits1 6 x)))) = H7 at *
        rw [← iV_append] at h_b2
        have c7 := c.to (e36.trans e_b2)
        have hh := c7.here
        wtm_at "x"
        refine ⟨b2, B ++ bits1 6 x, 8, rfl, SqL.of h_b2, by decide, by decide, by omega, fun H8 g4 e8 hg40 hg4 => ?_⟩
        wtm_at "x"
        rw [cutI_from _ _ rfl]
        intro p n_p
        have e_p : Ext H8 (upd H8 p (.lst (iV ((groupsOf 8 (B ++ bits1 6 x)).drop (B.length / 8))))) := Only'.put0 Only'.refl n_p
        have h_p : (upd H8 p (.lst (iV ((groupsOf 8 (B ++ bits1 6 x)).drop (B.length / 8))))) p = some (.lst (iV ((groupsOf 8 (B ++ bits1 6 x)).drop (B.length / 8)))) := upd_same
        generalize (upd H8 p (.lst (iV ((groupsOf 8 (B ++ bits1 6 x)).drop (B.length / 8))))) = H9 at *
        have e79 := e8.trans e_p
        have c9 := c7.to e79
        have hh9 := c9.here
        have hbf : b2 ≠ f := Ne.symm (ne_of_none (c.to e36).here n_b2)
        have hpf : p ≠ f := Ne.symm (ne_of_none (c7.to e8).here n_p)
        have hp0 : H p = none := (c7.to e8).ext.free n_p
        wtm_at "x"
        by_cases hm : many = 0
        · subst hm
          obtain ⟨s1, s2⟩ := sg_none sg x0 x64
          rw [if_pos (by decide)] at ht1
          rw [s2] at h_p
          exact ⟨_, _, _, _, _, _, _, _, rfl, c9.next (o := []) n_f h_p hpf hp0, rat_next hr hi ht1, s1, hl6, upd_get hbf (e79 b2 _ h_b2 (by simp)), hbf⟩
        · obtain ⟨s1, s2⟩ := sg_some sg hm x0 x64
          rw [if_neg (by have := sg.four; omega)] at ht1
          rw [s2] at h_p
          exact ⟨_, _, _, _, _, _, _, _, rfl, c9.next n_f h_p hpf hp0, rat_next hr hi ht1, s1, hl6, upd_get hbf (e79 b2 _ h_b2 (by simp)), hbf⟩
    · rintro σ H' ⟨many, value, B, bl, rows, ts, v3, v4, rfl, c, hr, sg, hB, hbl, hblf⟩
      have hs1 := SqL.ext c.ext hs
      have hlen := c.few
      have hrl := rat_len (Nat.le_refl _) hr
      have hsz : (ts.map V.ref).length < sizeLine := by
        rw [List.length_map, hlen, hrl, sizeLine_eq]
        omega
      have ho := rat_end hr
      have he : rend (.signs (row.length : Int) many value) = (if many = 6 then .cut else if value > 0 then .wrong ((row.length : Int) - 1) else .ok []) := rfl
      rw [he] at ho
      have hse := sg_end sg
      obtain ⟨⟨d, rem, k, hd1, hd2, hd3, _, _⟩, four⟩ := sg
      have hmod : many = 6 ↔ row.length % 4 = 1 := by
        have e1 : B.length = d.length + rem.length := by rw [hd1, List.length_append]
        omega
      wtm_at "x"
      rw [iV_length]
      refine ite_d (fun h4 => ?_) fun h4 => ?_
      · rw [if_pos (hmod.mpr (by omega))] at ho
        wtm_at "x"
        intro t1 n_t1
        have e_t1 : Ext H' (upd H' t1 (.tup [V.str "cut"])) := Only'.put0 Only'.refl n_t1
        have h_t1 : (upd H' t1 (.tup [V.str "cut"])) t1 = some (.tup [V.str "cut"]) := upd_same
        generalize (upd H' t1 (.tup [V.str "cut"])) = H4 at *
        wtm_at "x"
        intro tp n_tp
        have e_tp : Ext H4 (upd H4 tp (.tup [V.ref f, V.ref t1])) := Only'.put0 Only'.refl n_tp
        have h_tp : (upd H4 tp (.tup [V.ref f, V.ref t1])) tp = some (.tup [V.ref f, V.ref t1]) := upd_same
        generalize (upd H4 tp (.tup [V.ref f, V.ref t1])) = H5 at *
        exact c.done n_f (e_t1.trans e_tp) (c.ext.free (e_t1.free n_tp)) h_tp (fo := some .cut) ⟨t1, rfl, e_tp t1 _ h_t1 (by simp)⟩ ho q
      · rw [if_neg (fun z => h4 (by have := hmod.mp z; omega))] at ho
        wtm_at "x"
        rw [iV_length, show (B.length : Int) / 8 * 8 = ((8 * (B.length / 8) : Nat) : Int) by omega, cutI_from _ _ rfl]
        intro l1 n_l1
        have e_l1 : Ext H' (upd H' l1 (.lst (iV (B.drop (8 * (B.length / 8)))))) := Only'.put0 Only'.refl n_l1
        have h_l1 : (upd H' l1 (.lst (iV (B.drop (8 * (B.length / 8)))))) l1 = some (.lst (iV (B.drop (8 * (B.length / 8))))) := upd_same
        generalize (upd H' l1 (.lst (iV (B.drop (8 * (B.length / 8)))))) = H4 at *
        wtm_at "x"
        refine x_sum (SqL.of h_l1) ?_
        wtm_at "x"
        have hs4 := SqL.ext e_l1 hs1
        refine ite_d (fun hp => ?_) fun hp => ?_
        · rw [if_pos (hse.mp hp)] at ho
          wtm_at "x"
          rw [iV_length]
          intro t1 n_t1
          have e_t1 : Ext H4 (upd H4 t1 (.tup [V.str "wrong", V.int ((row.length : Int) - 1)])) := Only'.put0 Only'.refl n_t1
          have h_t1 : (upd H4 t1 (.tup [V.str "wrong", V.int ((row.length : Int) - 1)])) t1 = some (.tup [V.str "wrong", V.int ((row.length : Int) - 1)]) := upd_same
          generalize (upd H4 t1 (.tup [V.str "wrong", V.int ((row.length : Int) - 1)])) = H5 at *
          wtm_at "x"
          intro tp n_tp
          have e_tp : Ext H5 (upd H5 tp (.tup [V.ref f, V.ref t1])) := Only'.put0 Only'.refl n_tp
          have h_tp : (upd H5 tp (.tup [V.ref f, V.ref t1])) tp = some (.tup [V.ref f, V.ref t1]) := upd_same
          generalize (upd H5 tp (.tup [V.ref f, V.ref t1])) = H6 at *
          exact c.done n_f ((e_l1.trans e_t1).trans e_tp) (c.ext.free ((e_l1.trans e_t1).free n_tp)) h_tp (fo := some (.wrong ((row.length : Int) - 1))) ⟨t1, rfl, e_tp t1 _ h_t1 (by simp)⟩ ho q
        · rw [if_neg (fun z => hp (hse.mpr z))] at ho
          have c4 := c.to e_l1
          wtm_at "x"
          intro p n_p
          have e_p : Ext H4 (upd H4 p (.lst [])) := Only'.put0 Only'.refl n_p
          have h_p : (upd H4 p (.lst [])) p = some (.lst []) := upd_same
          generalize (upd H4 p (.lst [])) = H5 at *
          wtm_at "x"
          refine c4.more (x := []) e_p h_p (c4.ext.free n_p) hsz fun r H6 c3 e3 hr0 => ?_
          wtm_at "x"
          intro tp n_tp
          have e_tp : Ext H6 (upd H6 tp (.tup [V.ref r, V.non])) := Only'.put0 Only'.refl n_tp
          have h_tp : (upd H6 tp (.tup [V.ref r, V.non])) tp = some (.tup [V.ref r, V.non]) := upd_same
          generalize (upd H6 tp (.tup [V.ref r, V.non])) = H7 at *
          exact c3.done hr0 e_tp (c3.ext.free n_tp) h_tp (fo := none) rfl ho q
end
end Flow

namespace Flow
open PySem PySem.Spec PyProof.Rows L2
local macro_rules | `(tactic| wtm_at "x1") => `(tactic| first
  | (with_reducible refine Flow.x_ifT ?_))
/-! ### the law's own reading: a layer -/
def spOwnRead (K : PySem.W.Frag) : Sp := fun vs H Q _ => ∃ (t a : Addr) (ly : Lay) (row : Row), vs = [.ref t, .ref a] ∧ SqT K H t (layV ly) ∧ ly.Ok ∧ SqL K H a (iV row) ∧ Bys row ∧ row.length ≤ 30000 ∧ ToldF H (own (newR ly) row) Q
def addBack (key row : Row) (i : Nat) : Row := [(gI row (i : Int) - gI key ((i % key.length : Nat) : Int)) % 256]
theorem add_at (key : Row) (hk : 1 ≤ key.length) (row : Row) : ∀ i, i ≤ row.length → OwnAt (.add key 0) row i (.add key ((i % key.length : Nat) : Int)) ((List.range i).map (addBack key row))
  | 0, _ => by
    rw [Nat.zero_mod]
    exact rat_zero _ _
  | i + 1, h => by
    have ih := add_at key hk row i (by omega)
    rw [List.range_succ, List.map_append]
    refine rat_next ih (by omega) ?_
    show RTake.ok [(gI row (i : Int) - gI key ((i % key.length : Nat) : Int)) % 256] (.add key ((((i % key.length : Nat) : Int) + 1) % (key.length : Int))) = _
    have e : (((i % key.length : Nat) : Int) + 1) % (key.length : Int) = (((i + 1) % key.length : Nat) : Int) := by
      have e1 : (i + 1) % key.length = (i % key.length + 1) % key.length := by rw [Nat.mod_add_mod]
      rw [e1]
      rfl
    rw [e]
    rfl
theorem add_own (key : Row) (hk : 1 ≤ key.length) (row : Row) : own (.add key 0) row = ((List.range row.length).map (addBack key row) ++ [[]], none) := rat_end (add_at key hk row row.length (Nat.le_refl _))
section
variable {P : Program} {w : World} {K : PySem.W.Frag} {mg : Str → Option Value} {base : Heap}
theorem ok_law_read (T : Tx K mg) : DefOk P w K mg base 3 (He.ga K "_law_read") ["_law_layer_here", "_law_row_here"] (spOwnRead K) := by
  have D_law_read_escape := ok_law_read_escape (P := P) (w := w) (base := base) T
  have D_law_read_runs := ok_law_read_runs (P := P) (w := w) (base := base) T
  have D_law_read_chunks := ok_law_read_chunks (P := P) (w := w) (base := base) T
  have D_law_read_checks := ok_law_read_checks (P := P) (w := w) (base := base) T
  have D_law_read_signs := ok_law_read_signs (P := P) (w := w) (base := base) T
  refine def_ok (N := n_law_read) (fn_law_read T) sc_law_read (fun _ _ _ _ _ _ us hl => match us, hl with | [_, _], _ => rfl) (fun vs H Q E h => ?_) (fun cdv A outer s H vs Q E hr h => ?_)
  · obtain ⟨t, a, ly, row, rfl, _⟩ := h
    rfl
  · obtain ⟨t, a, ly, row, rfl, ht, ok, hs, hby, hz, q⟩ := h
    refine ⟨_, [_, _, _, _, _, _, _], (pss_cons (ps_if (pt_cmpR op_eq (pe_ix ix_tup (pv 0) pe_int (fun _ _ => rfl)) pe_str (nomark _)) (pss_cons (ps_set (i := 2) sc_law_read.nd rfl (Or.inr rfl) (pe_slice sl_tup (pv 0) (po_some pe_int) po_none))
      (pss_one (ps_ret (pe_tup (pa_cons (pe_op op_cat (pe_lc (own := [("_law_k", 6)]) (g := gName 6) (tt := tYes) rfl sc_law_read.nd (pi_range1 rfl (f_range T) (pa_cons (pe_callB call_lenS rfl (f_len T) (by decide +kernel) (pa_cons (pv 1) pa_nil)) pa_nil)) (blkOk_by (own := [("_law_k", 6)]) (N := n_law_read) (sc := defScope s_law_read) (by decide +kernel)) (fun _ _ _ _ _ => pg_name (i := 6) sc_law_read.nd rfl (Or.inl rfl)) (fun _ _ _ _ _ => pts_nil) (fun _ _ _ _ _ => (pe_lst (pa_cons (pe_op op_mod (pe_op op_sub (pe_ix (ix_listK K rfl) (pv 1) (pv 6) (fun _ _ => rfl)) (pe_ix (ix_tupK K rfl) (pv 2) (pe_op op_modN (pv 6) (pe_callB (call_lenK K rfl) rfl (f_len T) (by decide +kernel) (pa_cons (pv 2) pa_nil))) (fun _ _ => rfl))) pe_int) pa_nil)))) (pe_lst (pa_cons (pe_lst pa_nil) pa_nil))) (pa_cons pe_non pa_nil)))))) pss_nil)
      (pss_cons (ps_if (pt_cmpR op_eq (pe_ix ix_tup (pv 0) pe_int (fun _ _ => rfl)) pe_str (nomark _)) (pss_one (ps_ret (pe_fn D_law_read_escape (g_law_read_escape T) (hr.mono (by first | decide | omega)) (fun _ => passE) (pa_cons (pv 0) (pa_cons (pv 1) pa_nil))))) pss_nil)
      (pss_cons (ps_if (pt_cmpR op_eq (pe_ix ix_tup (pv 0) pe_int (fun _ _ => rfl)) pe_str (nomark _)) (pss_one (ps_ret (pe_fn D_law_read_runs (g_law_read_runs T) (hr.mono (by first | decide | omega)) (fun _ => passE) (pa_cons (pv 1) pa_nil)))) pss_nil)
      (pss_cons (ps_if (pt_cmpR op_eq (pe_ix ix_tup (pv 0) pe_int (fun _ _ => rfl)) pe_str (nomark _)) (pss_one (ps_ret (pe_fn D_law_read_chunks (g_law_read_chunks T) (hr.mono (by first | decide | omega)) (fun _ => passE) (pa_cons (pe_ix ix_tup (pv 0) pe_int (fun _ _ => rfl)) (pa_cons (pv 1) pa_nil))))) pss_nil)
      (pss_cons (ps_if (pt_cmpR op_eq (pe_ix ix_tup (pv 0) pe_int (fun _ _ => rfl)) pe_str (nomark _)) (pss_one (ps_ret (pe_fn D_law_read_checks (g_law_read_checks T) (hr.mono (by first | decide | omega)) (fun _ => passE) (pa_cons (pe_ix ix_tup (pv 0) pe_int (fun _ _ => rfl)) (pa_cons (pv 1) pa_nil))))) pss_nil)
      (pss_cons (ps_if (pt_cmpR op_eq (pe_ix ix_tup (pv 0) pe_int (fun _ _ => rfl)) pe_str (nomark _)) (pss_one (ps_ret (pe_fn D_law_read_signs (g_law_read_signs T) (hr.mono (by first | decide | omega)) (fun _ => passE) (pa_cons (pv 1) pa_nil)))) pss_nil)
      (pss_cons (ps_set (i := 3) sc_law_read.nd rfl (Or.inl rfl) (pe_listRg rfl rfl (f_list T) (prg_1 rfl (f_range T) pe_int)))
      (pss_cons (ps_set (i := 4) sc_law_read.nd rfl (Or.inl rfl) (pe_lst pa_nil))
      (pss_cons (ps_for (passes_of rfl) rfl (pi_list (pv 1)) (pg_name (i := 5) sc_law_read.nd rfl (Or.inl rfl)) (pss_cons (ps_set (i := 3) sc_law_read.nd rfl (Or.inl rfl) (pe_op op_cat (pe_op op_cat (pe_lst (pa_cons (pe_ix ix_list (pv 3) (pv 5) (fun _ _ => rfl)) pa_nil)) (pe_slice sl_list (pv 3) po_none (po_some (pv 5)))) (pe_slice sl_list (pv 3) (po_some (pe_op op_add (pv 5) pe_int)) po_none)))
      (pss_one (ps_expr (pe_bm PySem.F.plainAttrs_list PySem.F.slot_list_append PySem.F.type_list_append mt_append (pv 4) (pa_cons (pe_lst (pa_cons (pe_ix ix_list (pv 3) pe_int (fun _ _ => rfl)) pa_nil)) pa_nil))))))
      (pss_one (ps_ret (pe_tup (pa_cons (pe_op op_cat (pv 4) (pe_lst (pa_cons (pe_lst pa_nil) pa_nil))) (pa_cons pe_non pa_nil)))))))))))))), rfl, ?_⟩
    try dsimp only [cxOf]
    wtm_at "x"
    refine x_ixT ht (kind_at ly) ?_
    wtm_at "x"
    cases ly with
    | add key =>
      obtain ⟨k1, k8, kby⟩ := ok
      refine ite_d (fun _ => ?_) fun z => absurd rfl z
      wtm_at "x"
      refine x_slT ht (by unfold layV; rw [rawV_len]; intro z; have := z.1; unfold HT.sIx at this; simp at this) ?_
      rw [show cutV (layV (Lay.add key)) (some 1) none = iV key from cut_from (k := 1) rfl]
      intro t2 n_t2
      have e_t2 : Ext H (upd H t2 (.tup (iV key))) := Only'.put0 Only'.refl n_t2
      have h_t2 : (upd H t2 (.tup (iV key))) t2 = some (.tup (iV key)) := upd_same
      generalize (upd H t2 (.tup (iV key))) = H1 at *
      have hs1 := SqL.ext e_t2 hs
      wtm_at "x"
      rw [iV_length]
      refine x_rLcRN (k := row.length) (fun t => H t = none) (addBack key row) rfl (by omega) (fun _ => rfl) (fun i H2 Dl hi e2 hD hne Q' k => ?_) fun p ts H2 hp e2 h2 h3 h4 h5 => ?_
      · wtm_at "x"
        refine x_ixL (SqL.ext e2 hs1) (gI_at (by omega) (by omega)) ?_
        wtm_at "x"
        refine x_len (Or.inr (SqT.ext e2 (SqT.of h_t2))) ?_
        wtm_at "x"
        rw [iV_length, fmod_pos (by omega), show (i : Int) % (key.length : Int) = ((i % key.length : Nat) : Int) from rfl]
        have hm := Nat.mod_lt i (show 0 < key.length by omega)
        refine x_ixT (SqT.ext e2 (SqT.of h_t2)) (gI_at (by omega) (by omega)) ?_
        wtm_at "x"
        intro l hl
        exact k l _ (Only'.put0 Only'.refl hl) (by rw [upd_same]; rfl) (hne l hl) ((e_t2.trans e2).free hl)
      · wtm_at "x"
        intro p3 n_p3
        have e_p3 : Ext H2 (upd H2 p3 (.lst [])) := Only'.put0 Only'.refl n_p3
        have h_p3 : (upd H2 p3 (.lst [])) p3 = some (.lst []) := upd_same
        generalize (upd H2 p3 (.lst [])) = H3 at *
        wtm_at "x"
        have c : AccR H p ((List.range row.length).map (addBack key row)) H2 ts := ⟨h2, h3, h4, h5, e_t2.trans e2⟩
        have hlen := c.few
        rw [List.length_map, List.length_range] at hlen
        refine c.more (x := []) e_p3 h_p3 (c.ext.free n_p3) (by rw [List.length_map, hlen, sizeLine_eq]; omega) fun r H4 c3 e3 hr0 => ?_
        wtm_at "x"
        intro tp n_tp
        have e_tp : Ext H4 (upd H4 tp (.tup [V.ref r, V.non])) := Only'.put0 Only'.refl n_tp
        have h_tp : (upd H4 tp (.tup [V.ref r, V.non])) tp = some (.tup [V.ref r, V.non]) := upd_same
        generalize (upd H4 tp (.tup [V.ref r, V.non])) = H5 at *
        exact c3.done hr0 e_tp (c3.ext.free n_tp) h_tp (fo := none) rfl (add_own key k1 row) q
    | esc e =>
      refine ite_d (fun z => absurd (show ("escape" : Str) = _ from z) (by decide +kernel)) fun _ => ?_
      wtm_at "x"
      refine x_ixT ht (kind_at _) ?_
      wtm_at "x"
      refine ite_d (fun _ => ?_) fun z => absurd rfl z
      wtm_at "x"
      exact ⟨t, a, e, row, rfl, ht, hs, hby, hz, q⟩
    | runs =>
      refine ite_d (fun z => absurd (show ("runs" : Str) = _ from z) (by decide +kernel)) fun _ => ?_
      wtm_at "x"
      refine x_ixT ht (kind_at _) ?_
      wtm_at "x"
      refine ite_d (fun z => absurd (show ("runs" : Str) = _ from z) (by decide +kernel)) fun _ => ?_
      wtm_at "x"
      refine x_ixT ht (kind_at _) ?_
      wtm_at "x"
      refine ite_d (fun _ => ?_) fun z => absurd rfl z
      wtm_at "x"
      exact ⟨a, row, rfl, hs, hby, hz, q⟩
    | chunks n =>
      refine ite_d (fun z => absurd (show ("chunks" : Str) = _ from z) (by decide +kernel)) fun _ => ?_
      wtm_at "x"
      refine x_ixT ht (kind_at _) ?_
      wtm_at "x"
      refine ite_d (fun z => absurd (show ("chunks" : Str) = _ from z) (by decide +kernel)) fun _ => ?_
      wtm_at "x"
      refine x_ixT ht (kind_at _) ?_
      wtm_at "x"
      refine ite_d (fun z => absurd (show ("chunks" : Str) = _ from z) (by decide +kernel)) fun _ => ?_
      wtm_at "x"
      refine x_ixT ht (kind_at _) ?_
      wtm_at "x"
      obtain ⟨n1, n2⟩ := ok
      obtain ⟨m, rfl⟩ : ∃ m : Nat, n = (m : Int) := ⟨n.toNat, by omega⟩
      refine ite_d (fun _ => ?_) fun z => absurd rfl z
      wtm_at "x"
      refine x_ixT ht (ix_arg (k := "chunks") (xs := [(m : Int)]) rfl) ?_
      wtm_at "x"
      exact ⟨m, a, row, rfl, hs, hby, hz, by omega, by omega, q⟩
    | checks n =>
      refine ite_d (fun z => absurd (show ("checks" : Str) = _ from z) (by decide +kernel)) fun _ => ?_
      wtm_at "x"
      refine x_ixT ht (kind_at _) ?_
      wtm_at "x"
      refine ite_d (fun z => absurd (show ("checks" : Str) = _ from z) (by decide +kernel)) fun _ => ?_
      wtm_at "x"
      refine x_ixT ht (kind_at _) ?_
      wtm_at "x"
      refine ite_d (fun z => absurd (show ("checks" : Str) = _ from z) (by decide +kernel)) fun _ => ?_
      wtm_at "x"
      refine x_ixT ht (kind_at _) ?_
      wtm_at "x"
      refine ite_d (fun z => absurd (show ("checks" : Str) = _ from z) (by decide +kernel)) fun _ => ?_
      wtm_at "x"
      refine x_ixT ht (kind_at _) ?_
      wtm_at "x"
      obtain ⟨n1, n2⟩ := ok
      obtain ⟨m, rfl⟩ : ∃ m : Nat, n = (m : Int) := ⟨n.toNat, by omega⟩
      refine ite_d (fun _ => ?_) fun z => absurd rfl z
      wtm_at "x"
      refine x_ixT ht (ix_arg (k := "checks") (xs := [(m : Int)]) rfl) ?_
      wtm_at "x"
      exact ⟨m, a, row, rfl, hs, hby, hz, by omega, by omega, q⟩
    | signs =>
      refine ite_d (fun z => absurd (show ("signs" : Str) = _ from z) (by decide +kernel)) fun _ => ?_
      wtm_at "x"
      refine x_ixT ht (kind_at _) ?_
      wtm_at "x"
      refine ite_d (fun z => absurd (show ("signs" : Str) = _ from z) (by decide +kernel)) fun _ => ?_
      wtm_at "x"
      refine x_ixT ht (kind_at _) ?_
      wtm_at "x"
      refine ite_d (fun z => absurd (show ("signs" : Str) = _ from z) (by decide +kernel)) fun _ => ?_
      wtm_at "x"
      refine x_ixT ht (kind_at _) ?_
      wtm_at "x"
      refine ite_d (fun z => absurd (show ("signs" : Str) = _ from z) (by decide +kernel)) fun _ => ?_
      wtm_at "x"
      refine x_ixT ht (kind_at _) ?_
      wtm_at "x"
      refine ite_d (fun z => absurd (show ("signs" : Str) = _ from z) (by decide +kernel)) fun _ => ?_
      wtm_at "x"
      refine x_ixT ht (kind_at _) ?_
      wtm_at "x"
      refine ite_d (fun _ => ?_) fun z => absurd rfl z
      wtm_at "x"
      exact ⟨a, row, rfl, hs, hby, hz, q⟩
    | front =>
      refine ite_d (fun z => absurd (show ("front" : Str) = _ from z) (by decide +kernel)) fun _ => ?_
      wtm_at "x"
      refine x_ixT ht (kind_at _) ?_
      wtm_at "x"
      refine ite_d (fun z => absurd (show ("front" : Str) = _ from z) (by decide +kernel)) fun _ => ?_
      wtm_at "x"
      refine x_ixT ht (kind_at _) ?_
      wtm_at "x"
      refine ite_d (fun z => absurd (show ("front" : Str) = _ from z) (by decide +kernel)) fun _ => ?_
      wtm_at "x"
      refine x_ixT ht (kind_at _) ?_
      wtm_at "x"
      refine ite_d (fun z => absurd (show ("front" : Str) = _ from z) (by decide +kernel)) fun _ => ?_
      wtm_at "x"
      refine x_ixT ht (kind_at _) ?_
      wtm_at "x"
      refine ite_d (fun z => absurd (show ("front" : Str) = _ from z) (by decide +kernel)) fun _ => ?_
      wtm_at "x"
      refine x_ixT ht (kind_at _) ?_
      wtm_at "x"
      refine ite_d (fun z => absurd (show ("front" : Str) = _ from z) (by decide +kernel)) fun _ => ?_
      wtm_at "x"
      refine ⟨RgOk.of_le (by decide) (by decide) (by decide) (by decide), ?_⟩
      rw [rgV256]
      intro l0 n_l0
      have e_l0 : Ext H (upd H l0 (.lst (iV range256))) := Only'.put0 Only'.refl n_l0
      have h_l0 : (upd H l0 (.lst (iV range256))) l0 = some (.lst (iV range256)) := upd_same
      generalize (upd H l0 (.lst (iV range256))) = H1 at *
      wtm_at "x"
      intro f n_f
      have e_f : Ext H1 (upd H1 f (.lst [])) := Only'.put0 Only'.refl n_f
      have h_f : (upd H1 f (.lst [])) f = some (.lst []) := upd_same
      generalize (upd H1 f (.lst [])) = H2 at *
      have hf0 : H f = none := e_l0.free n_f
      have e02 := e_l0.trans e_f
      wtm_at "x"
      refine x_rForL (SqL.ext e02 hs) (fun i σ H' => ∃ (held : Row) (hl : Addr) (rows : List Row) (ts : List Addr) (v2 v5 v6 : Option V), σ = [some (.ref t), some (.ref a), v2, some (.ref hl), some (.ref f), v5, v6] ∧ AccR H f rows H' ts ∧
        OwnAt (.front range256) row i (.front held) rows ∧ held.length = 256 ∧ H' hl = some (.lst (iV held)) ∧ hl ≠ f) ⟨range256, l0, [], [], _, _, _, rfl, AccR.start h_f e02, rat_zero _ _, by decide +kernel, e_f l0 _ h_l0 (by simp), Ne.symm (ne_of_none h_l0 n_f) |>.symm⟩ (fun i σ H' _ p => ?_) ?_ ?_
      · obtain ⟨held, hl, rows, ts, v2, v5, v6, _, c, _⟩ := p
        exact SqL.ext c.ext hs
      · rintro i x σ H' hi ⟨held, hl, rows, ts, v2, v5, v6, rfl, c, hr, h256, hhl, hlf⟩
        obtain ⟨z, hz1, rfl⟩ := iV_get hi
        have hil : i < row.length := (List.getElem?_eq_some_iff.mp hz1).1
        have hzb := hby z (List.mem_of_getElem? hz1)
        obtain ⟨j, rfl⟩ : ∃ j : Nat, z = (j : Int) := ⟨z.toNat, by have := hzb.1; omega⟩
        have hj : j < 256 := by have := hzb.2; omega
        have hlen := c.few
        have hrl := rat_len (by omega) hr
        have hsz : (ts.map V.ref).length < sizeLine := by
          rw [List.length_map, hlen, hrl, sizeLine_eq]
          omega
        wtm_at "x"
        refine x_ixL (SqL.of hhl) (gI_at (by omega) (by omega)) ?_
        wtm_at "x"
        intro p1 n_p1
        have e_p1 : Ext H' (upd H' p1 (.lst [V.int (gI held (j : Int))])) := Only'.put0 Only'.refl n_p1
        have h_p1 : (upd H' p1 (.lst [V.int (gI held (j : Int))])) p1 = some (.lst [V.int (gI held (j : Int))]) := upd_same
        generalize (upd H' p1 (.lst [V.int (gI held (j : Int))])) = H3 at *
        have hhl3 := e_p1 hl _ hhl (by simp)
        wtm_at "x"
        rw [cutI_to]
        intro p2 n_p2
        have e_p2 : Ext H3 (upd H3 p2 (.lst (iV (held.take j)))) := Only'.put0 Only'.refl n_p2
        have h_p2 : (upd H3 p2 (.lst (iV (held.take j)))) p2 = some (.lst (iV (held.take j))) := upd_same
        generalize (upd H3 p2 (.lst (iV (held.take j)))) = H4 at *
        refine x_cat (e_p2 p1 _ h_p1 (by simp)) h_p2 (by rw [iV_length, List.length_take, sizeLine_eq]; simp; omega) ?_
        intro p3 n_p3
        have e_p3 : Ext H4 (upd H4 p3 (.lst ([V.int (gI held (j : Int))] ++ iV (held.take j)))) := Only'.put0 Only'.refl n_p3
        have h_p3 : (upd H4 p3 (.lst ([V.int (gI held (j : Int))] ++ iV (held.take j)))) p3 = some (.lst ([V.int (gI held (j : Int))] ++ iV (held.take j))) := upd_same
        generalize (upd H4 p3 (.lst ([V.int (gI held (j : Int))] ++ iV (held.take j)))) = H5 at *
        have hhl5 := (e_p2.trans e_p3) hl _ hhl3 (by simp)
        wtm_at "x"
        rw [cutI_from _ (j + 1) (by omega)]
        intro p4 n_p4
        have e_p4 : Ext H5 (upd H5 p4 (.lst (iV (held.drop (j + 1))))) := Only'.put0 Only'.refl n_p4
        have h_p4 : (upd H5 p4 (.lst (iV (held.drop (j + 1))))) p4 = some (.lst (iV (held.drop (j + 1)))) := upd_same
        generalize (upd H5 p4 (.lst (iV (held.drop (j + 1))))) = H6 at *
        refine x_cat (e_p4 p3 _ h_p3 (by simp)) h_p4 (by rw [List.length_append, iV_length, iV_length, List.length_take, List.length_drop, sizeLine_eq]; simp; omega) ?_
        have em : [V.int (gI held (j : Int))] ++ iV (held.take j) ++ iV (held.drop (j + 1)) = iV (moveFront held j) := by
          unfold moveFront
          rw [List.eraseIdx_eq_take_drop_succ, iV_cons, iV_append]
          rfl
        rw [em]
        intro p5 n_p5
        have e_p5 : Ext H6 (upd H6 p5 (.lst (iV (moveFront held j)))) := Only'.put0 Only'.refl n_p5
        have h_p5 : (upd H6 p5 (.lst (iV (moveFront held j)))) p5 = some (.lst (iV (moveFront held j))) := upd_same
        generalize (upd H6 p5 (.lst (iV (moveFront held j)))) = H7 at *
        have e37 := (((e_p1.trans e_p2).trans e_p3).trans e_p4).trans e_p5
        have c7 := c.to e37
        have hh := c7.here
        wtm_at "x"
        have hml : (moveFront held j).length = 256 := by
          unfold moveFront
          rw [List.length_cons, List.length_eraseIdx_of_lt (by omega)]
          omega
        refine x_ixL (SqL.of h_p5) (gI_at (by decide) (by omega)) ?_
        wtm_at "x"
        intro p6 n_p6
        have e_p6 : Ext H7 (upd H7 p6 (.lst [V.int (gI (moveFront held j) 0)])) := Only'.put0 Only'.refl n_p6
        have h_p6 : (upd H7 p6 (.lst [V.int (gI (moveFront held j) 0)])) p6 = some (.lst [V.int (gI (moveFront held j) 0)]) := upd_same
        generalize (upd H7 p6 (.lst [V.int (gI (moveFront held j) 0)])) = H8 at *
        have c8 := c7.to e_p6
        have hh8 := c8.here
        wtm_at "x"
        have hg : gI (moveFront held j) 0 = gI held (j : Int) := rfl
        refine ⟨_, _, _, _, _, _, _, rfl, c8.next (o := [gI held (j : Int)]) hf0 (by rw [h_p6, hg]; rfl) (Ne.symm (ne_of_none c7.here n_p6)) (c7.ext.free n_p6), rat_next hr hil ?_, hml, upd_get (Ne.symm (ne_of_none (c.to (((e_p1.trans e_p2).trans e_p3).trans e_p4)).here n_p5)) (e_p6 p5 _ h_p5 (by simp)), Ne.symm (ne_of_none (c.to (((e_p1.trans e_p2).trans e_p3).trans e_p4)).here n_p5)⟩
        rw [gI_nat hz1]
        rfl
      · rintro σ H' ⟨held, hl, rows, ts, v2, v5, v6, rfl, c, hr, _⟩
        rw [iV_length] at hr
        have hlen := c.few
        have hrl := rat_len (Nat.le_refl _) hr
        have hsz : (ts.map V.ref).length < sizeLine := by
          rw [List.length_map, hlen, hrl, sizeLine_eq]
          omega
        wtm_at "x"
        intro p n_p
        have e_p : Ext H' (upd H' p (.lst [])) := Only'.put0 Only'.refl n_p
        have h_p : (upd H' p (.lst [])) p = some (.lst []) := upd_same
        generalize (upd H' p (.lst [])) = H4 at *
        wtm_at "x"
        refine c.more (x := []) e_p h_p (c.ext.free n_p) hsz fun r H5 c3 e3 hr0 => ?_
        wtm_at "x"
        intro tp n_tp
        have e_tp : Ext H5 (upd H5 tp (.tup [V.ref r, V.non])) := Only'.put0 Only'.refl n_tp
        have h_tp : (upd H5 tp (.tup [V.ref r, V.non])) tp = some (.tup [V.ref r, V.non]) := upd_same
        generalize (upd H5 tp (.tup [V.ref r, V.non])) = H6 at *
        exact c3.done hr0 e_tp (c3.ext.free n_tp) h_tp (fo := none) rfl (rat_end hr) q
end
end Flow

namespace Flow
open PySem PySem.Spec PyProof.Rows L2
/-! ### readers as objects -/
def RAt (K : PySem.W.Frag) (H : Hp) (p l : Addr) : RSt → Prop
  | .add key at_ => ∃ dx, H p = some (.ins (He.ga K "AddReader") dx [("key", .ref l), ("at", .int at_)]) ∧ H l = some (.lst (iV key))
  | .front row => ∃ dx, H p = some (.ins (He.ga K "FrontReader") dx [("row", .ref l)]) ∧ H l = some (.lst (iV row))
  | .esc e done marked => ∃ dx, H p = some (.ins (He.ga K "EscapeReader") dx [("marks", .ref l), ("done", .int done), ("marked", .bl marked)]) ∧ H l = some (.lst (iV (marksOf e)))
  | .runs done many lastN lastB => ∃ dx, H p = some (.ins (He.ga K "RunsReader") dx [("done", .int done), ("many", .int many), ("last", .ref l)]) ∧ H l = some (.tup (iV [lastN, lastB]))
  | .chunks size done left isLast => H p = some (.ins (He.ga K "ChunksReader") l [("size", .int size), ("done", .int done), ("left", .int left), ("is_last", .bl isLast)]) ∧ H l = some (.own p)
  | .checks size done check held => ∃ dx, H p = some (.ins (He.ga K "ChecksReader") dx [("size", .int size), ("done", .int done), ("check", .int check), ("held", .ref l)]) ∧ H l = some (.lst (iV held))
  | .signs done many value => H p = some (.ins (He.ga K "SignsReader") l [("done", .int done), ("many", .int many), ("value", .int value)]) ∧ H l = some (.own p)
def RName : RSt → Str
  | .add _ _ => "AddReader"
  | .front _ => "FrontReader"
  | .esc _ _ _ => "EscapeReader"
  | .runs _ _ _ _ => "RunsReader"
  | .chunks _ _ _ _ => "ChunksReader"
  | .checks _ _ _ _ => "ChecksReader"
  | .signs _ _ _ => "SignsReader"
/-- the exception Wrong(place), as it flies -/
def wrongX (K : PySem.W.Frag) (S : List Addr) (H : Hp) (place : Int) (E : XK) : Prop := ∀ (H' : Hp) (d : Addr), Only' S H H' → H d = none → H' d = some (.xd [("place", .int place)]) → E (.ref (He.ga K "Wrong")) (some d) H'
def spRTake (K : PySem.W.Frag) (is : RSt → Prop) : Sp := fun vs H Q E => ∃ (p l : Addr) (st : RSt) (b : Int), vs = [.ref p, .int b] ∧ is st ∧ RAt K H p l st ∧ ROk st ∧ By b ∧
  (∀ (row : Row) (st' : RSt), rtake st b = .ok row st' → ∀ (H' : Hp) (l' r : Addr), RAt K H' p l' st' → (l' = l ∨ H l' = none) → H r = none → H' r = some (.lst (iV row)) → Only' [p, l] H H' → Q (.ref r) H') ∧
  (∀ place, rtake st b = .wrong place → wrongX K [p, l] H place E)
def spREnd (K : PySem.W.Frag) (is : RSt → Prop) : Sp := fun vs H Q E => ∃ (p l : Addr) (st : RSt), vs = [.ref p] ∧ is st ∧ RAt K H p l st ∧ ROk st ∧
  (∀ (row : Row), rend st = .ok row → ∀ (H' : Hp) (r : Addr), H r = none → H' r = some (.lst (iV row)) → Only' [p, l] H H' → Q (.ref r) H') ∧
  (rend st = .cut → ∀ H', Only' [p, l] H H' → E (.ref (He.ga K "Cut")) none H') ∧
  (∀ place, rend st = .wrong place → wrongX K [p, l] H place E)
def spRInit (K : PySem.W.Frag) (C : Addr) (ok : List V → Hp → RSt → Prop) : Sp := fun vs H Q _ => ∃ (p dx : Addr) (a : List V) (st : RSt), vs = .ref p :: a ∧ H p = some (.ins C dx []) ∧ H dx = some (.own p) ∧ ok a H st ∧
  ∀ (H' : Hp) (l : Addr), RAt K H' p l st → (l = dx ∨ H l = none) → Only' [p] H H' → Q .non H'
def isAddR : RSt → Prop | .add _ _ => True | _ => False
def isFrontR : RSt → Prop | .front _ => True | _ => False
def isEscR : RSt → Prop | .esc _ _ _ => True | _ => False
def isRunsR : RSt → Prop | .runs _ _ _ _ => True | _ => False
def isChunksR : RSt → Prop | .chunks _ _ _ _ => True | _ => False
def isChecksR : RSt → Prop | .checks _ _ _ _ => True | _ => False
def isSignsR : RSt → Prop | .signs _ _ _ => True | _ => False
def spWrongInit (K : PySem.W.Frag) : Sp := fun vs H Q _ => ∃ (a : Addr) (i : Int), vs = [.ref a, .int i] ∧ H a = some (exo a (He.ga K "Wrong") none) ∧
  ∀ dx, H dx = none → dx ≠ a → Q .non (upd (upd H dx (exd dx [("place", .int i)])) a (exo a (He.ga K "Wrong") (some dx)))
/-- a raise of Wrong(i), read -/
theorem x_wrong {K : PySem.W.Frag} {σ : L2.St} {H : Hp} {ta : TA} {i : Int} {Q : XK} (ha : ∀ R : List V → Hp → Prop, R [.int i] H → ta σ H R) (q : ∀ (H' : Hp) (d : Addr), Only' [] H H' → H d = none → H' d = some (.xd [("place", .int i)]) → Q (.ref (He.ga K "Wrong")) (some d) H') :
    tMkO (He.ga K "Wrong") (spWrongInit K) [] ta σ H Q := by
  refine ha _ ⟨by simp, fun a na => ⟨a, i, rfl, upd_same, fun dx hdx ne => ⟨rfl, dx, [("place", .int i)], upd_same, by rw [upd_ne ne, upd_same], ?_, ?_⟩⟩⟩
  · exact (upd_none hdx).2
  · have hdx0 := (upd_none hdx).2
    refine q _ dx ⟨fun b o hb _ => ?_, fun b o hb => ?_⟩ hdx0 upd_same
    · have n1 := ne_of_none hb na
      have n2 := ne_of_none hb hdx0
      rw [upd_ne n2, del_ne n1, upd_ne n1, upd_ne n2, upd_ne n1]
      exact hb
    · have n1 := ne_of_none hb na
      have n2 := ne_of_none hb hdx0
      refine ⟨o, ?_⟩
      rw [upd_ne n2, del_ne n1, upd_ne n1, upd_ne n2, upd_ne n1]
      exact hb
section
variable {P : Program} {w : World} {K : PySem.W.Frag} {mg : Str → Option Value} {base : Heap}
theorem ok_Wrong_init (T : Tx K mg) : ∃ fd, FnOk P w K mg base (L2.CX P w) 1 (He.ma K (He.ga K "Wrong") "__init__") fd ["self", "place"] (spWrongInit K) ∧ Binds K fd ["self", "place"] [] := by
  obtain ⟨fd, F⟩ := fn_Wrong_init T
  refine ⟨fd, law_ok (N := n_Wrong_init) F sc_Wrong_init (fun vs H Q E h => ?_) (fun cdv A outer s H vs Q E hr h => ?_), F.bindsN fun _ _ _ _ _ _ us hl => match us, hl with | [_, _], _ => rfl⟩
  · obtain ⟨a, i, rfl, _⟩ := h
    rfl
  · obtain ⟨a, i, rfl, ha, q⟩ := h
    refine ⟨_, [_, _], pss_one (ps_ost (pv 0) (pv 1)), rfl, ?_⟩
    try dsimp only [cxOf]
    refine ⟨_, rfl, _, rfl, a, _, rfl, oex_Wrong T, no_Wrong_place T, Or.inl ⟨ha, fun dx h1 h2 => q dx h1 h2⟩⟩
/-! ### AddReader -/
theorem ok_AddReader_turned (T : Tx K mg) : DefOk P w K mg base 1 (He.ma K (He.ga K "AddReader") "turned") ["self", "byte"] (spTurned K (He.ga K "AddReader") fun b k => (b - k) % 256) := by
  refine def_ok (N := n_AddReader_turned) (fn_AddReader_turned T) sc_AddReader_turned (fun _ _ _ _ _ _ us hl => match us, hl with | [_, _], _ => rfl) (fun vs H Q E h => ?_) (fun cdv A outer s H vs Q E hr h => ?_)
  · obtain ⟨p, l, dx, key, at_, b, rfl, _⟩ := h
    rfl
  · obtain ⟨p, l, dx, key, at_, b, rfl, hp, hl, h0, h1, q⟩ := h
    refine ⟨_, [_, _], (pss_one (ps_ret (pe_op op_mod (pe_op op_sub (pv 1) (pe_ix ix_list (pe_fld (pv 0) rfl) (pe_fld (pv 0) rfl) (fun _ _ => rfl))) pe_int))), rfl, ?_⟩
    try dsimp only [cxOf]
    wtm_at "x"
    refine x_ixL (SqL.of hl) (gI_at h0 h1) ?_
    wtm_at "x"
    exact q
theorem ok_AddReader_init (T : Tx K mg) : DefOk P w K mg base 1 (He.ma K (He.ga K "AddReader") "__init__") ["self", "key"] (spRInit K (He.ga K "AddReader") fun a H st => ∃ t key, a = [.ref t] ∧ st = .add key 0 ∧ SqT K H t (iV key)) := by
  refine def_ok (N := n_AddWriter_init) (fn_AddReader_init T) sc_AddWriter_init (fun _ _ _ _ _ _ us hl => match us, hl with | [_, _], _ => rfl) (fun vs H Q E h => ?_) (fun cdv A outer s H vs Q E hr h => ?_)
  · obtain ⟨p, dx, a, st, rfl, _, _, ⟨t, key, rfl, _⟩, _⟩ := h
    rfl
  · obtain ⟨p, dx, a, st, rfl, hp, hd, ⟨t, key, rfl, rfl, ht⟩, q⟩ := h
    refine ⟨_, [_, _], (pss_cons (ps_fld (pv 0) (pe_callTy call_listS rfl (f_list T) (by decide +kernel) (pa_cons (pv 1) pa_nil)) rfl)
      (pss_one (ps_fld (pv 0) pe_int rfl))), rfl, ?_⟩
    try dsimp only [cxOf]
    wtm_at "x"
    intro l hl
    wtm_at "x"
    exact q _ l ⟨dx, by wtm_at "h", by wtm_at "h"⟩ (Or.inr hl) (by wtm_at "only")
theorem ok_AddReader_take (T : Tx K mg) : DefOk P w K mg base 2 (He.ma K (He.ga K "AddReader") "take") ["self", "byte"] (spRTake K isAddR) := by
  have M_AddReader_turned := meth1 (cl_AddReader T) (me_AddReader_turned T) (ok_AddReader_turned (P := P) (w := w) (base := base) T)
  refine def_ok (N := n_AddWriter_take) (fn_AddReader_take T) sc_AddWriter_take (fun _ _ _ _ _ _ us hl => match us, hl with | [_, _], _ => rfl) (fun vs H Q E h => ?_) (fun cdv A outer s H vs Q E hr h => ?_)
  · obtain ⟨p, l, st, b, rfl, _⟩ := h
    rfl
  · obtain ⟨p, l, st, b, rfl, hst, hw, hk, hb, q, qw⟩ := h
    clear qw
    cases st <;> simp only [isAddR] at hst
    rename_i key at_
    obtain ⟨dx, hp, hl⟩ := hw
    obtain ⟨k1, k2, k3, k4, k5⟩ := hk
    refine ⟨_, [_, _, _], (pss_cons (ps_set (i := 2) sc_AddWriter_take.nd rfl (Or.inl rfl) (pe_mm M_AddReader_turned (hr.mono (by first | decide | omega)) (fun _ => passE) (pv 0) (pa_cons (pv 1) pa_nil)))
      (pss_cons (ps_fld (pv 0) (pe_op op_modN (pe_op op_add (pe_fld (pv 0) rfl) pe_int) (pe_callB call_lenS rfl (f_len T) (by decide +kernel) (pa_cons (pe_fld (pv 0) rfl) pa_nil))) rfl)
      (pss_one (ps_ret (pe_lst (pa_cons (pv 2) pa_nil)))))), rfl, ?_⟩
    try dsimp only [cxOf]
    wtm_at "x"
    refine ⟨p, l, dx, key, at_, b, rfl, hp, hl, k4, k5, ?_⟩
    wtm_at "x"
    intro r hr
    obtain ⟨r1, hr⟩ := upd_none hr
    refine q _ _ rfl _ l r ⟨dx, ?_, by wtm_at "h"⟩ (Or.inl rfl) hr upd_same (by wtm_at "only")
    have e : (at_ + 1).fmod ((iV key).length : Int) = (at_ + 1) % (key.length : Int) := by rw [iV_length, fmod_pos (by omega)]
    rw [← e]
    wtm_at "h"
theorem ok_AddReader_end (T : Tx K mg) : DefOk P w K mg base 1 (He.ma K (He.ga K "AddReader") "end") ["self"] (spREnd K isAddR) := by
  refine def_ok (N := n_AddWriter_end) (fn_AddReader_end T) sc_AddWriter_end (fun _ _ _ _ _ _ us hl => match us, hl with | [_], _ => rfl) (fun vs H Q E h => ?_) (fun cdv A outer s H vs Q E hr h => ?_)
  · obtain ⟨p, l, st, rfl, _⟩ := h
    rfl
  · obtain ⟨p, l, st, rfl, hst, hw, hk, q, qw⟩ := h
    clear qw
    cases st <;> simp only [isAddR] at hst
    refine ⟨_, [_], (pss_one (ps_ret (pe_lst pa_nil))), rfl, ?_⟩
    try dsimp only [cxOf]
    wtm_at "x"
    intro r hr
    exact q _ rfl _ r hr upd_same (by wtm_at "only")
/-! ### FrontReader -/
theorem ok_FrontReader_init (T : Tx K mg) : DefOk P w K mg base 1 (He.ma K (He.ga K "FrontReader") "__init__") ["self"] (spRInit K (He.ga K "FrontReader") fun a H st => a = [] ∧ st = .front range256) := by
  refine def_ok (N := n_FrontWriter_init) (fn_FrontReader_init T) sc_FrontWriter_init (fun _ _ _ _ _ _ us hl => match us, hl with | [_], _ => rfl) (fun vs H Q E h => ?_) (fun cdv A outer s H vs Q E hr h => ?_)
  · obtain ⟨p, dx, a, st, rfl, _, _, ⟨rfl, _⟩, _⟩ := h
    rfl
  · obtain ⟨p, dx, a, st, rfl, hp, hd, ⟨rfl, rfl⟩, q⟩ := h
    refine ⟨_, [_], (pss_one (ps_fld (pv 0) (pe_listRg rfl rfl (f_list T) (prg_1 rfl (f_range T) pe_int)) rfl)), rfl, ?_⟩
    try dsimp only [cxOf]
    wtm_at "x"
    refine ⟨RgOk.of_le (by decide) (by decide) (by decide) (by decide), fun l hl => ?_⟩
    rw [rgV256]
    wtm_at "x"
    exact q _ l ⟨dx, by wtm_at "h", by wtm_at "h"⟩ (Or.inr hl) (by wtm_at "only")
theorem ok_FrontReader_to_front (T : Tx K mg) : DefOk P w K mg base 1 (He.ma K (He.ga K "FrontReader") "to_front") ["self", "place"] (spToFront K (He.ga K "FrontReader")) := by
  refine def_ok (N := n_FrontWriter_to_front) (fn_FrontReader_to_front T) sc_FrontWriter_to_front (fun _ _ _ _ _ _ us hl => match us, hl with | [_, _], _ => rfl) (fun vs H Q E h => ?_) (fun cdv A outer s H vs Q E hr h => ?_)
  · obtain ⟨p, l, dx, row, i, rfl, _⟩ := h
    rfl
  · obtain ⟨p, l, dx, row, i, rfl, hp, hl, h0, h1, h2, q⟩ := h
    have hpl : p ≠ l := ne_of hp hl (by intro z; cases z)
    refine ⟨_, [_, _, _], (pss_cons (ps_set (i := 2) sc_FrontWriter_to_front.nd rfl (Or.inl rfl) (pe_bm PySem.F.plainAttrs_list PySem.F.slot_list_pop PySem.F.type_list_pop mt_popAt (pe_fld (pv 0) rfl) (pa_cons (pv 1) pa_nil)))
      (pss_cons (ps_expr (pe_bm PySem.F.plainAttrs_list PySem.F.slot_list_insert PySem.F.type_list_insert mt_insertS (pe_fld (pv 0) rfl) (pa_cons pe_int (pa_cons (pv 2) pa_nil))))
      (pss_one (ps_ret (pv 2))))), rfl, ?_⟩
    try dsimp only [cxOf]
    wtm_at "x"
    refine x_popAt hl h0 h1 (by omega) ?_
    wtm_at "x"
    refine x_insert0 upd_same (by rw [iV_length, List.length_eraseIdx, sizeLine_eq]; split <;> omega) ?_
    wtm_at "x"
    refine q _ ?_ (by wtm_at "only")
    rw [upd_same]
    rfl
theorem ok_FrontReader_take (T : Tx K mg) : DefOk P w K mg base 2 (He.ma K (He.ga K "FrontReader") "take") ["self", "byte"] (spRTake K isFrontR) := by
  have M_FrontReader_to_front := meth1 (cl_FrontReader T) (me_FrontReader_to_front T) (ok_FrontReader_to_front (P := P) (w := w) (base := base) T)
  refine def_ok (N := n_FrontReader_take) (fn_FrontReader_take T) sc_FrontReader_take (fun _ _ _ _ _ _ us hl => match us, hl with | [_, _], _ => rfl) (fun vs H Q E h => ?_) (fun cdv A outer s H vs Q E hr h => ?_)
  · obtain ⟨p, l, st, b, rfl, _⟩ := h
    rfl
  · obtain ⟨p, l, st, b, rfl, hst, hw, hk, hb, q, qw⟩ := h
    clear qw
    cases st <;> simp only [isFrontR] at hst
    rename_i row
    obtain ⟨dx, hp, hl⟩ := hw
    obtain ⟨k1, k2⟩ := hk
    obtain ⟨b0, b1⟩ := hb
    have hpl : p ≠ l := ne_of hp hl (by intro z; cases z)
    refine ⟨_, [_, _], (pss_one (ps_ret (pe_lst (pa_cons (pe_mm M_FrontReader_to_front (hr.mono (by first | decide | omega)) (fun _ => passE) (pv 0) (pa_cons (pv 1) pa_nil)) pa_nil)))), rfl, ?_⟩
    try dsimp only [cxOf]
    wtm_at "x"
    refine ⟨p, l, dx, row, b, rfl, hp, hl, b0, by omega, k1, fun H' h' o' => ?_⟩
    wtm_at "x"
    intro r hr
    have hp' := o' p _ hp (by simpa using hpl)
    have hr0 : H r = none := o'.free hr
    refine q _ _ rfl _ l r ⟨dx, by wtm_at "h", by wtm_at "h"⟩ (Or.inl rfl) hr0 upd_same ?_
    exact Only'.put0 (o'.mono (by simp)) hr0
theorem ok_FrontReader_end (T : Tx K mg) : DefOk P w K mg base 1 (He.ma K (He.ga K "FrontReader") "end") ["self"] (spREnd K isFrontR) := by
  refine def_ok (N := n_FrontWriter_end) (fn_FrontReader_end T) sc_FrontWriter_end (fun _ _ _ _ _ _ us hl => match us, hl with | [_], _ => rfl) (fun vs H Q E h => ?_) (fun cdv A outer s H vs Q E hr h => ?_)
  · obtain ⟨p, l, st, rfl, _⟩ := h
    rfl
  · obtain ⟨p, l, st, rfl, hst, hw, hk, q, qw⟩ := h
    clear qw
    cases st <;> simp only [isFrontR] at hst
    refine ⟨_, [_], (pss_one (ps_ret (pe_lst pa_nil))), rfl, ?_⟩
    try dsimp only [cxOf]
    wtm_at "x"
    intro r hr
    exact q _ rfl _ r hr upd_same (by wtm_at "only")
end
end Flow

namespace Flow
open PySem PySem.Spec PyProof.Rows L2
theorem wrong_go {K : PySem.W.Frag} {S S' : List Addr} {H H1 : Hp} {place : Int} {E : XK} (h : wrongX K S H place E) (o : Only' S H H1) (hs : ∀ a, a ∈ S' → a ∈ S) : wrongX K S' H1 place E := fun H' d o2 hd hx => h H' d (o.trans (o2.mono hs)) (o.free hd) hx
section
variable {P : Program} {w : World} {K : PySem.W.Frag} {mg : Str → Option Value} {base : Heap}
/-! ### EscapeReader -/
theorem ok_EscapeReader_init (T : Tx K mg) : DefOk P w K mg base 1 (He.ma K (He.ga K "EscapeReader") "__init__") ["self", "byte"] (spRInit K (He.ga K "EscapeReader") fun a H st => ∃ e, a = [.int e] ∧ st = .esc e 0 false) := by
  refine def_ok (N := n_EscapeReader_init) (fn_EscapeReader_init T) sc_EscapeReader_init (fun _ _ _ _ _ _ us hl => match us, hl with | [_, _], _ => rfl) (fun vs H Q E h => ?_) (fun cdv A outer s H vs Q E hr h => ?_)
  · obtain ⟨p, dx, a, st, rfl, _, _, ⟨e, rfl, _⟩, _⟩ := h
    rfl
  · obtain ⟨p, dx, a, st, rfl, hp, hd, ⟨e, rfl, rfl⟩, q⟩ := h
    refine ⟨_, [_, _, _], (pss_cons (ps_fld (pv 0) (pe_lc (own := [("k", 2)]) (g := gName 2) (tt := tYes) rfl sc_EscapeReader_init.nd (pi_range1 rfl (f_range T) (pa_cons pe_int pa_nil)) (blkOk_by (own := [("k", 2)]) (N := n_EscapeReader_init) (sc := defScope s_EscapeReader_init) (by decide +kernel)) (fun _ _ _ _ _ => pg_name (i := 2) sc_EscapeReader_init.nd rfl (Or.inl rfl)) (fun _ _ _ _ _ => pts_nil) (fun _ _ _ _ _ => (pe_op op_mod (pe_op op_add (pv 1) (pv 2)) pe_int))) rfl)
      (pss_cons (ps_fld (pv 0) pe_int rfl)
      (pss_one (ps_fld (pv 0) pe_bl rfl)))), rfl, ?_⟩
    try dsimp only [cxOf]
    wtm_at "x"
    refine x_rLcR (k := 4) (fun i => V.int ((e + (i : Int)) % 256)) rfl (by decide) (fun _ => rfl) (fun i H1 hi e1 Q' k => ?_) fun l H1 hl e1 h1 => ?_
    · wtm_at "x"
      exact k _ Only'.refl
    · rw [marks_eq] at h1
      wtm_at "x"
      have hp1 := e1 p _ hp (by simp)
      have hpl : p ≠ l := ne_of_none hp hl
      wtm_at "x"
      exact q _ l ⟨dx, by wtm_at "h", by wtm_at "h"⟩ (Or.inr hl) ((((e1.mono (by simp)).put (by simp)).put (by simp)).put (by simp))
theorem ok_EscapeReader_take (T : Tx K mg) : DefOk P w K mg base 3 (He.ma K (He.ga K "EscapeReader") "take") ["self", "byte"] (spRTake K isEscR) := by
  obtain ⟨fdW, DW⟩ := ok_Wrong_init (P := P) (w := w) (base := base) T
  refine def_ok (N := n_EscapeReader_take) (fn_EscapeReader_take T) sc_EscapeReader_take (fun _ _ _ _ _ _ us hl => match us, hl with | [_, _], _ => rfl) (fun vs H Q E h => ?_) (fun cdv A outer s H vs Q E hr h => ?_)
  · obtain ⟨p, l, st, b, rfl, _⟩ := h
    rfl
  · obtain ⟨p, l, st, b, rfl, hst, hw, hk, hb, q, qw⟩ := h
    cases st <;> simp only [isEscR] at hst
    rename_i e done marked
    obtain ⟨dx, hp, hl⟩ := hw
    obtain ⟨he0, he1⟩ := id hk
    obtain ⟨hb0, hb1⟩ := hb
    have hpl : p ≠ l := ne_of hp hl (by intro z; cases z)
    refine ⟨_, [_, _, _], (pss_cons (ps_set (i := 2) sc_EscapeReader_take.nd rfl (Or.inl rfl) (pe_fld (pv 0) rfl))
      (pss_cons (ps_fld (pv 0) (pe_op op_add (pv 2) pe_int) rfl)
      (pss_cons (ps_if (pt_val (pe_fld (pv 0) rfl)) (pss_cons (ps_fld (pv 0) pe_bl rfl)
      (pss_cons (ps_if (pt_cmpR op_notIn_seq (pv 1) (pe_slice sl_list (pe_fld (pv 0) rfl) (po_some pe_int) po_none) (by rfl)) (pss_one (ps_raise rfl (takes_of rfl rfl rfl rfl) (pmk_oex (oex_Wrong T) (me_Wrong_init T).at_ (fnT (me_Wrong_init T)) DW.1 (hr.mono (by first | decide | omega)) DW.2 .nil passL rfl (g_Wrong T) (pa_cons (pv 2) pa_nil)))) pss_nil)
      (pss_one (ps_ret (pe_lst (pa_cons (pe_ix ix_list (pe_fld (pv 0) rfl) (pe_op op_sub (pe_bm PySem.F.plainAttrs_list PySem.F.slot_list_index PySem.F.type_list_index mt_index (pe_fld (pv 0) rfl) (pa_cons (pv 1) pa_nil)) pe_int) (fun _ _ => rfl)) pa_nil)))))) pss_nil)
      (pss_cons (ps_if (pt_cmpR op_eq (pv 1) (pe_ix ix_list (pe_fld (pv 0) rfl) pe_int (fun _ _ => rfl)) (nomark _)) (pss_one (ps_raise rfl (takes_of rfl rfl rfl rfl) (pmk_oex (oex_Wrong T) (me_Wrong_init T).at_ (fnT (me_Wrong_init T)) DW.1 (hr.mono (by first | decide | omega)) DW.2 .nil passL rfl (g_Wrong T) (pa_cons (pv 2) pa_nil)))) pss_nil)
      (pss_cons (ps_if (pt_cmpR op_eq (pv 1) (pe_ix ix_list (pe_fld (pv 0) rfl) pe_int (fun _ _ => rfl)) (nomark _)) (pss_cons (ps_fld (pv 0) pe_bl rfl)
      (pss_one (ps_ret (pe_lst pa_nil)))) pss_nil)
      (pss_one (ps_ret (pe_lst (pa_cons (pv 1) pa_nil))))))))), rfl, ?_⟩
    try dsimp only [cxOf]
    wtm_at "x"
    cases marked with
    | true =>
      refine iteT ?_
      wtm_at "x"
      intro s1 hs1
      obtain ⟨_, hs1⟩ := upd_none hs1
      obtain ⟨n1, hs10⟩ := upd_none hs1
      have n2 : s1 ≠ l := (ne_of_none hl hs10).symm
      have e1 : cutV (iV (marksOf e)) (some 2) none = iV ((marksOf e).drop 2) := cut_from (k := 2) rfl
      rw [e1]
      refine x_ninI (Or.inl (SqL.of upd_same)) ?_
      wtm_at "x"
      refine ite_nd (fun hc => ?_) fun hc => ?_
      · have hc2 : ¬ (b = (e + 2) % 256 ∨ b = (e + 3) % 256) := by simpa [marksOf] using hc
        refine x_wrong (fun R k => by wtm_at "x"; exact k) ?_
        refine wrong_go (qw done ?_) (by wtm_at "only") (by simp)
        have z1 : ¬ b = (e + 2) % 256 := fun z => hc2 (Or.inl z)
        have z2 : ¬ b = (e + 3) % 256 := fun z => hc2 (Or.inr z)
        simp only [rtake, ↓reduceIte, z1, z2]
      · have hc2 : b = (e + 2) % 256 ∨ b = (e + 3) % 256 := by simpa [marksOf] using hc
        have hm : b ∈ marksOf e := List.mem_of_mem_drop hc
        wtm_at "x"
        refine x_index (SqL.of (by wtm_at "h")) hm ?_
        wtm_at "x"
        have hx : (marksOf e).idxOf b = (if b = (e + 2) % 256 then 2 else 3) := by
          unfold marksOf
          rw [List.idxOf_cons, List.idxOf_cons, List.idxOf_cons, List.idxOf_cons]
          have b1 : (e % 256 == b) = false := by rw [beq_eq_false_iff_ne]; omega
          have b2 : ((e + 1) % 256 == b) = false := by rw [beq_eq_false_iff_ne]; omega
          rw [b1, b2]
          rcases hc2 with h | h
          · have b3 : ((e + 2) % 256 == b) = true := by rw [beq_iff_eq]; omega
            rw [b3, if_pos h]
            rfl
          · have b3 : ((e + 2) % 256 == b) = false := by rw [beq_eq_false_iff_ne]; omega
            have b4 : ((e + 3) % 256 == b) = true := by rw [beq_iff_eq]; omega
            rw [b3, b4, if_neg (by omega)]
            rfl
        rw [hx]
        have hi2 : (((if b = (e + 2) % 256 then 2 else 3 : Nat) : Int) - 2) = (if b = (e + 2) % 256 then 0 else 1) := by split <;> rfl
        rw [hi2]
        refine x_ixL (SqL.of (by wtm_at "h")) (gI_at (by split <;> decide) (by rw [marks_len]; split <;> decide)) ?_
        wtm_at "x"
        intro r hr
        obtain ⟨_, hr⟩ := upd_none hr
        obtain ⟨_, hr⟩ := upd_none hr
        obtain ⟨_, hr0⟩ := upd_none hr
        refine q [gI (marksOf e) (if b = (e + 2) % 256 then 0 else 1)] (.esc e (done + 1) false) ?_ _ l r ⟨dx, by wtm_at "h", by wtm_at "h"⟩ (Or.inl rfl) hr0 upd_same (by wtm_at "only")
        by_cases h2 : b = (e + 2) % 256
        · simp only [rtake, ↓reduceIte, ← h2]
          rfl
        · have h3 := hc2.resolve_left h2
          simp only [rtake, ↓reduceIte, h2]
          rw [if_pos h3]
          rfl
    | false =>
      refine iteF ?_
      wtm_at "x"
      refine x_ixL (SqL.of (by wtm_at "h")) (gI_at (by decide) (by rw [marks_len]; decide)) ?_
      wtm_at "x"
      have g0 : gI (marksOf e) 0 = e % 256 := rfl
      have g1 : gI (marksOf e) 1 = (e + 1) % 256 := rfl
      rw [g0]
      refine ite_d (fun hc => ?_) fun hc => ?_
      · refine x_wrong (fun R k => by wtm_at "x"; exact k) ?_
        refine wrong_go (qw done ?_) (by wtm_at "only") (by simp)
        simp only [rtake, Bool.false_eq_true, ↓reduceIte]
        rw [if_pos hc]
      · wtm_at "x"
        refine x_ixL (SqL.of (by wtm_at "h")) (gI_at (by decide) (by rw [marks_len]; decide)) ?_
        wtm_at "x"
        rw [g1]
        refine ite_d (fun hc2 => ?_) fun hc2 => ?_
        · wtm_at "x"
          intro r hr
          obtain ⟨_, hr⟩ := upd_none hr
          obtain ⟨_, hr0⟩ := upd_none hr
          refine q [] (.esc e (done + 1) true) ?_ _ l r ⟨dx, by wtm_at "h", by wtm_at "h"⟩ (Or.inl rfl) hr0 upd_same (by wtm_at "only")
          simp only [rtake, Bool.false_eq_true, ↓reduceIte]
          rw [if_neg hc, if_pos hc2]
        · wtm_at "x"
          intro r hr
          obtain ⟨_, hr0⟩ := upd_none hr
          refine q [b] (.esc e (done + 1) false) ?_ _ l r ⟨dx, by wtm_at "h", by wtm_at "h"⟩ (Or.inl rfl) hr0 upd_same (by wtm_at "only")
          simp only [rtake, Bool.false_eq_true, ↓reduceIte]
          rw [if_neg hc, if_neg hc2]
theorem ok_EscapeReader_end (T : Tx K mg) : DefOk P w K mg base 1 (He.ma K (He.ga K "EscapeReader") "end") ["self"] (spREnd K isEscR) := by
  refine def_ok (N := n_EscapeReader_end) (fn_EscapeReader_end T) sc_EscapeReader_end (fun _ _ _ _ _ _ us hl => match us, hl with | [_], _ => rfl) (fun vs H Q E h => ?_) (fun cdv A outer s H vs Q E hr h => ?_)
  · obtain ⟨p, l, st, rfl, _⟩ := h
    rfl
  · obtain ⟨p, l, st, rfl, hst, hw, hk, q, qc, qw⟩ := h
    clear qw
    cases st <;> simp only [isEscR] at hst
    rename_i e done marked
    obtain ⟨dx, hp, hl⟩ := hw
    refine ⟨_, [_], (pss_cons (ps_if (pt_val (pe_fld (pv 0) rfl)) (pss_one (ps_raise rfl (takes_of rfl rfl rfl rfl) (pmk_own PySem.F.excBase_ValueError (xc_Cut T).1 (g_Cut T) (xc_Cut T).2.1 (raises_own (xc_Cut T).2.2.1 (xc_Cut T).2.2.2) rfl))) pss_nil)
      (pss_one (ps_ret (pe_lst pa_nil)))), rfl, ?_⟩
    try dsimp only [cxOf]
    wtm_at "x"
    cases marked with
    | true =>
      refine iteT ?_
      exact qc rfl _ Only'.refl
    | false =>
      refine iteF ?_
      wtm_at "x"
      intro r hr
      exact q _ rfl _ r hr upd_same (by wtm_at "only")
/-! ### RunsReader -/
theorem ok_RunsReader_init (T : Tx K mg) : DefOk P w K mg base 1 (He.ma K (He.ga K "RunsReader") "__init__") ["self"] (spRInit K (He.ga K "RunsReader") fun a H st => a = [] ∧ st = .runs 0 0 0 0) := by
  refine def_ok (N := n_RunsReader_init) (fn_RunsReader_init T) sc_RunsReader_init (fun _ _ _ _ _ _ us hl => match us, hl with | [_], _ => rfl) (fun vs H Q E h => ?_) (fun cdv A outer s H vs Q E hr h => ?_)
  · obtain ⟨p, dx, a, st, rfl, _, _, ⟨rfl, _⟩, _⟩ := h
    rfl
  · obtain ⟨p, dx, a, st, rfl, hp, hd, ⟨rfl, rfl⟩, q⟩ := h
    refine ⟨_, [_], (pss_cons (ps_fld (pv 0) pe_int rfl)
      (pss_cons (ps_fld (pv 0) pe_int rfl)
      (pss_one (ps_fld (pv 0) (pe_tup (pa_cons pe_int (pa_cons pe_int pa_nil))) rfl)))), rfl, ?_⟩
    try dsimp only [cxOf]
    wtm_at "x"
    intro l hl
    obtain ⟨n1, hl⟩ := upd_none hl
    obtain ⟨n2, hl0⟩ := upd_none hl
    wtm_at "x"
    exact q _ l ⟨dx, by wtm_at "h", (show _ = some (HO.tup [V.int 0, V.int 0]) by wtm_at "h")⟩ (Or.inr hl0) (by wtm_at "only")
theorem ok_RunsReader_take (T : Tx K mg) : DefOk P w K mg base 3 (He.ma K (He.ga K "RunsReader") "take") ["self", "byte"] (spRTake K isRunsR) := by
  obtain ⟨fdW, DW⟩ := ok_Wrong_init (P := P) (w := w) (base := base) T
  refine def_ok (N := n_RunsReader_take) (fn_RunsReader_take T) sc_RunsReader_take (fun _ _ _ _ _ _ us hl => match us, hl with | [_, _], _ => rfl) (fun vs H Q E h => ?_) (fun cdv A outer s H vs Q E hr h => ?_)
  · obtain ⟨p, l, st, b, rfl, _⟩ := h
    rfl
  · obtain ⟨p, l, st, b, rfl, hst, hw, hk, hb, q, qw⟩ := h
    cases st <;> simp only [isRunsR] at hst
    rename_i done many lastN lastB
    obtain ⟨dx, hp, hl⟩ := hw
    obtain ⟨⟨m0, m1⟩, _, _⟩ := hk
    obtain ⟨hb0, hb1⟩ := hb
    have hpl : p ≠ l := ne_of hp hl (by intro z; cases z)
    refine ⟨_, [_, _, _], (pss_cons (ps_set (i := 2) sc_RunsReader_take.nd rfl (Or.inl rfl) (pe_fld (pv 0) rfl))
      (pss_cons (ps_fld (pv 0) (pe_op op_add (pv 2) pe_int) rfl)
      (pss_cons (ps_if (pt_cmpR op_eq (pe_fld (pv 0) rfl) pe_int (nomark _)) (pss_cons (ps_if (pt_cmpR op_eq (pv 1) pe_int (nomark _)) (pss_one (ps_raise rfl (takes_of rfl rfl rfl rfl) (pmk_oex (oex_Wrong T) (me_Wrong_init T).at_ (fnT (me_Wrong_init T)) DW.1 (hr.mono (by first | decide | omega)) DW.2 .nil passL rfl (g_Wrong T) (pa_cons (pv 2) pa_nil)))) pss_nil)
      (pss_cons (ps_fld (pv 0) (pv 1) rfl)
      (pss_one (ps_ret (pe_lst pa_nil))))) pss_nil)
      (pss_cons (ps_if (PW.pt (pw_and (pt_cmpR op_eq (pv 1) (pe_ix ix_tup (pe_fld (pv 0) rfl) pe_int (fun _ _ => rfl)) (nomark _)) (pw_and1 (pt_chain op_lt op_lt pe_int (pe_ix ix_tup (pe_fld (pv 0) rfl) pe_int (fun _ _ => rfl)) (pe_ci (c_LONGEST T)))))) (pss_one (ps_raise rfl (takes_of rfl rfl rfl rfl) (pmk_oex (oex_Wrong T) (me_Wrong_init T).at_ (fnT (me_Wrong_init T)) DW.1 (hr.mono (by first | decide | omega)) DW.2 .nil passL rfl (g_Wrong T) (pa_cons (pv 2) pa_nil)))) pss_nil)
      (pss_cons (ps_fld (pv 0) (pe_tup (pa_cons (pe_fld (pv 0) rfl) (pa_cons (pv 1) pa_nil))) rfl)
      (pss_cons (ps_fld (pv 0) pe_int rfl)
      (pss_one (ps_ret (pe_op op_rep (pe_lst (pa_cons (pv 1) pa_nil)) (pe_ix ix_tup (pe_fld (pv 0) rfl) pe_int (fun _ _ => rfl))))))))))), rfl, ?_⟩
    try dsimp only [cxOf]
    wtm_at "x"
    refine ite_d (fun hc => ?_) fun hc => ?_
    · wtm_at "x"
      refine ite_d (fun hc2 => ?_) fun hc2 => ?_
      · refine x_wrong (fun R k => by wtm_at "x"; exact k) ?_
        refine wrong_go (qw done ?_) (by wtm_at "only") (by simp)
        simp only [rtake]
        rw [if_pos hc, if_pos hc2]
      · wtm_at "x"
        intro r hr
        obtain ⟨_, hr⟩ := upd_none hr
        obtain ⟨_, hr0⟩ := upd_none hr
        refine q [] (.runs (done + 1) b lastN lastB) ?_ _ l r ⟨dx, by wtm_at "h", by wtm_at "h"⟩ (Or.inl rfl) hr0 upd_same (by wtm_at "only")
        simp only [rtake]
        rw [if_pos hc, if_neg hc2]
    · wtm_at "x"
      have hl1 : ∀ o, (upd H p o) l = some (.tup (iV [lastN, lastB])) := fun o => upd_get hpl.symm hl
      refine x_andJ (a := decide (b = lastB)) (b := decide (0 < lastN) && decide (lastN < 255)) (fun B' k => ?_) (fun _ B' k => ?_) (fun h1 h2 => ?_) (fun h12 => ?_)
      · wtm_at "x"
        refine x_ixT (SqT.of (hl1 _)) (at_of (j := 1) rfl rfl) ?_
        wtm_at "x"
        exact k
      · wtm_at "x"
        refine x_ixT (SqT.of (hl1 _)) (at_of (j := 0) rfl rfl) ?_
        wtm_at "x"
        refine ite_d (fun z1 => ?_) fun z1 => ?_
        · wtm_at "x"
          rw [decide_eq_true z1, Bool.true_and] at k
          exact k
        · rw [decide_eq_false z1, Bool.false_and] at k
          wtm_at "x"
          exact k
      · refine iteT ?_
        refine x_wrong (fun R k => by wtm_at "x"; exact k) ?_
        refine wrong_go (qw done ?_) (by wtm_at "only") (by simp)
        simp only [rtake]
        rw [Bool.and_eq_true] at h2
        rw [if_neg hc, if_pos ⟨of_decide_eq_true h1, of_decide_eq_true h2.1, of_decide_eq_true h2.2⟩]
      · refine iteF ?_
        wtm_at "x"
        intro l' hl'
        obtain ⟨n1, hl'0⟩ := upd_none hl'
        wtm_at "x"
        intro s1 hs1
        have hs1' := hs1
        obtain ⟨_, hs1⟩ := upd_none hs1
        obtain ⟨_, hs1⟩ := upd_none hs1
        obtain ⟨n2, hs1⟩ := upd_none hs1
        obtain ⟨n3, hs10⟩ := upd_none hs1
        wtm_at "x"
        refine x_ixT (SqT.of (upd_get (Ne.symm n2) (upd_get n1 (upd_get n1 upd_same)))) (at_of (j := 0) rfl rfl) ?_
        refine x_rep1 upd_same m0 (by omega) fun r hr => ?_
        obtain ⟨n4, hr⟩ := upd_none hr
        obtain ⟨_, hr⟩ := upd_none hr
        obtain ⟨_, hr⟩ := upd_none hr
        obtain ⟨n5, hr⟩ := upd_none hr
        obtain ⟨n6, hr0⟩ := upd_none hr
        refine q (List.replicate many.toNat b) (.runs (done + 1) 0 many b) ?_ _ l' r ⟨dx, by wtm_at "h", upd_get (Ne.symm n5) (upd_get (Ne.symm n2) (upd_get n1 (upd_get n1 upd_same)))⟩ (Or.inr hl'0) hr0 ?_ (by wtm_at "only")
        · simp only [rtake]
          rw [if_neg hc, if_neg ?_]
          rintro ⟨z1, z2, z3⟩
          rw [decide_eq_true z1, decide_eq_true z2, decide_eq_true z3] at h12
          cases h12
        · rw [upd_same]
          unfold iV
          rw [List.map_replicate]
theorem ok_RunsReader_end (T : Tx K mg) : DefOk P w K mg base 1 (He.ma K (He.ga K "RunsReader") "end") ["self"] (spREnd K isRunsR) := by
  refine def_ok (N := n_RunsReader_end) (fn_RunsReader_end T) sc_RunsReader_end (fun _ _ _ _ _ _ us hl => match us, hl with | [_], _ => rfl) (fun vs H Q E h => ?_) (fun cdv A outer s H vs Q E hr h => ?_)
  · obtain ⟨p, l, st, rfl, _⟩ := h
    rfl
  · obtain ⟨p, l, st, rfl, hst, hw, hk, q, qc, qw⟩ := h
    clear qw
    cases st <;> simp only [isRunsR] at hst
    rename_i done many lastN lastB
    obtain ⟨dx, hp, hl⟩ := hw
    refine ⟨_, [_], (pss_cons (ps_if (pt_cmpR op_gt (pe_fld (pv 0) rfl) pe_int (nomark _)) (pss_one (ps_raise rfl (takes_of rfl rfl rfl rfl) (pmk_own PySem.F.excBase_ValueError (xc_Cut T).1 (g_Cut T) (xc_Cut T).2.1 (raises_own (xc_Cut T).2.2.1 (xc_Cut T).2.2.2) rfl))) pss_nil)
      (pss_one (ps_ret (pe_lst pa_nil)))), rfl, ?_⟩
    try dsimp only [cxOf]
    wtm_at "x"
    refine ite_d (fun hc => ?_) fun hc => ?_
    · exact qc (if_pos hc) _ Only'.refl
    · wtm_at "x"
      intro r hr
      exact q _ (if_neg hc) _ r hr upd_same (by wtm_at "only")
end
end Flow

namespace Flow
open PySem PySem.Spec PyProof.Rows L2
def spBlock (K : PySem.W.Frag) : Sp := fun vs H Q E => ∃ (p l dx : Addr) (size done check : Int) (held : Row), vs = [.ref p] ∧ H p = some (.ins (He.ga K "ChecksReader") dx [("size", .int size), ("done", .int done), ("check", .int check), ("held", .ref l)]) ∧ H l = some (.lst (iV held)) ∧ 0 ≤ check ∧ check < 65521 ∧
  (blockTail held = checkBytes (checkAll check (blockRow held)) → ∀ (H' : Hp) (l' r : Addr), RAt K H' p l' (.checks size done (checkAll check (blockRow held)) []) → H l' = none → H r = none → H' r = some (.lst (iV (blockRow held))) → Only' [p, l] H H' → Q (.ref r) H') ∧
  (¬ blockTail held = checkBytes (checkAll check (blockRow held)) → wrongX K [p, l] H (done - 1) E)
section
variable {P : Program} {w : World} {K : PySem.W.Frag} {mg : Str → Option Value} {base : Heap}
/-! ### ChunksReader -/
theorem ok_ChunksReader_init (T : Tx K mg) : DefOk P w K mg base 1 (He.ma K (He.ga K "ChunksReader") "__init__") ["self", "size"] (spRInit K (He.ga K "ChunksReader") fun a H st => ∃ n, a = [.int n] ∧ st = .chunks n 0 0 false) := by
  refine def_ok (N := n_ChunksReader_init) (fn_ChunksReader_init T) sc_ChunksReader_init (fun _ _ _ _ _ _ us hl => match us, hl with | [_, _], _ => rfl) (fun vs H Q E h => ?_) (fun cdv A outer s H vs Q E hr h => ?_)
  · obtain ⟨p, dx, a, st, rfl, _, _, ⟨n, rfl, _⟩, _⟩ := h
    rfl
  · obtain ⟨p, dx, a, st, rfl, hp, hd, ⟨n, rfl, rfl⟩, q⟩ := h
    have hpd : dx ≠ p := ne_of hd hp (by intro z; cases z)
    refine ⟨_, [_, _], (pss_cons (ps_fld (pv 0) (pv 1) rfl)
      (pss_cons (ps_fld (pv 0) pe_int rfl)
      (pss_cons (ps_fld (pv 0) pe_int rfl)
      (pss_one (ps_fld (pv 0) pe_bl rfl))))), rfl, ?_⟩
    try dsimp only [cxOf]
    wtm_at "x"
    exact q _ dx ⟨by wtm_at "h", by wtm_at "h"⟩ (Or.inl rfl) (by wtm_at "only")
theorem ok_ChunksReader_take (T : Tx K mg) : DefOk P w K mg base 3 (He.ma K (He.ga K "ChunksReader") "take") ["self", "byte"] (spRTake K isChunksR) := by
  obtain ⟨fdW, DW⟩ := ok_Wrong_init (P := P) (w := w) (base := base) T
  refine def_ok (N := n_ChunksReader_take) (fn_ChunksReader_take T) sc_ChunksReader_take (fun _ _ _ _ _ _ us hl => match us, hl with | [_, _], _ => rfl) (fun vs H Q E h => ?_) (fun cdv A outer s H vs Q E hr h => ?_)
  · obtain ⟨p, l, st, b, rfl, _⟩ := h
    rfl
  · obtain ⟨p, l, st, b, rfl, hst, hw, hk, hb, q, qw⟩ := h
    cases st <;> simp only [isChunksR] at hst
    rename_i size done left isLast
    obtain ⟨hp, hl⟩ := hw
    have hpl : l ≠ p := ne_of hl hp (by intro z; cases z)
    refine ⟨_, [_, _, _], (pss_cons (ps_set (i := 2) sc_ChunksReader_take.nd rfl (Or.inl rfl) (pe_fld (pv 0) rfl))
      (pss_cons (ps_fld (pv 0) (pe_op op_add (pv 2) pe_int) rfl)
      (pss_cons (ps_if (pt_cmpR op_gt (pe_fld (pv 0) rfl) pe_int (nomark _)) (pss_cons (ps_fld (pv 0) (pe_op op_sub (pe_fld (pv 0) rfl) pe_int) rfl)
      (pss_one (ps_ret (pe_lst (pa_cons (pv 1) pa_nil))))) pss_nil)
      (pss_cons (ps_if (PW.pt (pw_or (pt_val (pe_fld (pv 0) rfl)) (pw_or1 (pt_cmpR op_gt (pv 1) (pe_fld (pv 0) rfl) (nomark _))))) (pss_one (ps_raise rfl (takes_of rfl rfl rfl rfl) (pmk_oex (oex_Wrong T) (me_Wrong_init T).at_ (fnT (me_Wrong_init T)) DW.1 (hr.mono (by first | decide | omega)) DW.2 .nil passL rfl (g_Wrong T) (pa_cons (pv 2) pa_nil)))) pss_nil)
      (pss_cons (ps_fld (pv 0) (pv 1) rfl)
      (pss_cons (ps_fld (pv 0) (pe_cmpR op_lt (pv 1) (pe_fld (pv 0) rfl) (nomark _)) rfl)
      (pss_one (ps_ret (pe_lst pa_nil))))))))), rfl, ?_⟩
    try dsimp only [cxOf]
    wtm_at "x"
    refine ite_d (fun hc => ?_) fun hc => ?_
    · wtm_at "x"
      intro r hr
      obtain ⟨_, hr⟩ := upd_none hr
      obtain ⟨_, hr0⟩ := upd_none hr
      refine q [b] (.chunks size (done + 1) (left - 1) isLast) ?_ _ l r ⟨by wtm_at "h", by wtm_at "h"⟩ (Or.inl rfl) hr0 upd_same (by wtm_at "only")
      simp only [rtake]
      rw [if_pos hc]
    · wtm_at "x"
      refine x_orJ (a := isLast) (b := decide (size < b)) (fun B' k => ?_) (fun _ B' k => ?_) (fun h12 => ?_) (fun h1 h2 => ?_)
      · wtm_at "x"
        exact k
      · wtm_at "x"
        exact k
      · refine iteT ?_
        refine x_wrong (fun R k => by wtm_at "x"; exact k) ?_
        refine wrong_go (qw done ?_) (by wtm_at "only") (by simp)
        simp only [rtake]
        rw [if_neg hc, if_pos ?_]
        rw [Bool.or_eq_true] at h12
        exact h12.imp id fun z => of_decide_eq_true z
      · refine iteF ?_
        wtm_at "x"
        intro r hr
        obtain ⟨_, hr⟩ := upd_none hr
        obtain ⟨_, hr⟩ := upd_none hr
        obtain ⟨_, hr0⟩ := upd_none hr
        refine q [] (.chunks size (done + 1) b (decide (b < size))) ?_ _ l r ⟨by wtm_at "h", by wtm_at "h"⟩ (Or.inl rfl) hr0 upd_same (by wtm_at "only")
        simp only [rtake]
        rw [if_neg hc, if_neg ?_]
        rintro (z | z)
        · rw [h1] at z
          cases z
        · rw [decide_eq_true z] at h2
          cases h2
theorem ok_ChunksReader_end (T : Tx K mg) : DefOk P w K mg base 1 (He.ma K (He.ga K "ChunksReader") "end") ["self"] (spREnd K isChunksR) := by
  refine def_ok (N := n_ChunksReader_end) (fn_ChunksReader_end T) sc_ChunksReader_end (fun _ _ _ _ _ _ us hl => match us, hl with | [_], _ => rfl) (fun vs H Q E h => ?_) (fun cdv A outer s H vs Q E hr h => ?_)
  · obtain ⟨p, l, st, rfl, _⟩ := h
    rfl
  · obtain ⟨p, l, st, rfl, hst, hw, hk, q, qc, qw⟩ := h
    clear qw
    cases st <;> simp only [isChunksR] at hst
    rename_i size done left isLast
    obtain ⟨hp, hl⟩ := hw
    refine ⟨_, [_], (pss_cons (ps_if (PW.pt (pw_or (pt_cmpR op_gt (pe_fld (pv 0) rfl) pe_int (nomark _)) (pw_or1 (pt_not (pt_val (pe_fld (pv 0) rfl)))))) (pss_one (ps_raise rfl (takes_of rfl rfl rfl rfl) (pmk_own PySem.F.excBase_ValueError (xc_Cut T).1 (g_Cut T) (xc_Cut T).2.1 (raises_own (xc_Cut T).2.2.1 (xc_Cut T).2.2.2) rfl))) pss_nil)
      (pss_one (ps_ret (pe_lst pa_nil)))), rfl, ?_⟩
    try dsimp only [cxOf]
    wtm_at "x"
    refine x_orJ (a := decide (0 < left)) (b := !isLast) (fun B' k => ?_) (fun _ B' k => ?_) (fun h12 => ?_) (fun h1 h2 => ?_)
    · wtm_at "x"
      exact k
    · wtm_at "x"
      exact k
    · refine iteT ?_
      refine qc ?_ _ Only'.refl
      simp only [rend]
      rw [if_pos ?_]
      rw [Bool.or_eq_true] at h12
      refine h12.imp (fun z => of_decide_eq_true z) fun z z2 => ?_
      rw [z2] at z
      cases z
    · refine iteF ?_
      wtm_at "x"
      intro r hr
      refine q [] ?_ _ r hr upd_same (by wtm_at "only")
      simp only [rend]
      rw [if_neg ?_]
      rintro (z | z)
      · rw [decide_eq_true z] at h1
        cases h1
      · cases isLast
        · cases h2
        · exact z rfl
/-! ### ChecksReader -/
theorem ok_ChecksReader_init (T : Tx K mg) : DefOk P w K mg base 1 (He.ma K (He.ga K "ChecksReader") "__init__") ["self", "size"] (spRInit K (He.ga K "ChecksReader") fun a H st => ∃ n, a = [.int n] ∧ st = .checks n 0 0 []) := by
  refine def_ok (N := n_ChecksReader_init) (fn_ChecksReader_init T) sc_ChecksReader_init (fun _ _ _ _ _ _ us hl => match us, hl with | [_, _], _ => rfl) (fun vs H Q E h => ?_) (fun cdv A outer s H vs Q E hr h => ?_)
  · obtain ⟨p, dx, a, st, rfl, _, _, ⟨n, rfl, _⟩, _⟩ := h
    rfl
  · obtain ⟨p, dx, a, st, rfl, hp, hd, ⟨n, rfl, rfl⟩, q⟩ := h
    refine ⟨_, [_, _], (pss_cons (ps_fld (pv 0) (pv 1) rfl)
      (pss_cons (ps_fld (pv 0) pe_int rfl)
      (pss_cons (ps_fld (pv 0) pe_int rfl)
      (pss_one (ps_fld (pv 0) (pe_lst pa_nil) rfl))))), rfl, ?_⟩
    try dsimp only [cxOf]
    wtm_at "x"
    intro l hl
    obtain ⟨n1, hl⟩ := upd_none hl
    obtain ⟨_, hl⟩ := upd_none hl
    obtain ⟨_, hl0⟩ := upd_none hl
    wtm_at "x"
    exact q _ l ⟨dx, by wtm_at "h", (show _ = some (HO.lst []) by wtm_at "h")⟩ (Or.inr hl0) (by wtm_at "only")
theorem ok_ChecksReader_block (T : Tx K mg) : DefOk P w K mg base 3 (He.ma K (He.ga K "ChecksReader") "block") ["self"] (spBlock K) := by
  obtain ⟨fdW, DW⟩ := ok_Wrong_init (P := P) (w := w) (base := base) T
  have D_checked := ok_checked (P := P) (w := w) (base := base) T
  have D_check_bytes := ok_check_bytes (P := P) (w := w) (base := base) T
  refine def_ok (N := n_ChecksReader_block) (fn_ChecksReader_block T) sc_ChecksReader_block (fun _ _ _ _ _ _ us hl => match us, hl with | [_], _ => rfl) (fun vs H Q E h => ?_) (fun cdv A outer s H vs Q E hr h => ?_)
  · obtain ⟨p, l, dx, size, done, check, held, rfl, _⟩ := h
    rfl
  · obtain ⟨p, l, dx, size, done, check, held, rfl, hp, hl, c0, c1, q, qw⟩ := h
    have hpl : p ≠ l := ne_of hp hl (by intro z; cases z)
    refine ⟨_, [_, _], (pss_cons (ps_set (i := 1) sc_ChecksReader_block.nd rfl (Or.inl rfl) (pe_slice sl_list (pe_fld (pv 0) rfl) po_none (po_some (pe_un un_neg pe_int))))
      (pss_cons (ps_fld (pv 0) (pe_fn D_checked (g_checked T) (hr.mono (by first | decide | omega)) (fun _ => passE) (pa_cons (pe_fld (pv 0) rfl) (pa_cons (pv 1) pa_nil))) rfl)
      (pss_cons (ps_if (pt_cmpR (op_neD hr.units) (pe_slice sl_list (pe_fld (pv 0) rfl) (po_some (pe_un un_neg pe_int)) po_none) (pe_fn D_check_bytes (g_check_bytes T) (hr.mono (by first | decide | omega)) (fun _ => passE) (pa_cons (pe_fld (pv 0) rfl) pa_nil)) (nomark _)) (pss_one (ps_raise rfl (takes_of rfl rfl rfl rfl) (pmk_oex (oex_Wrong T) (me_Wrong_init T).at_ (fnT (me_Wrong_init T)) DW.1 (hr.mono (by first | decide | omega)) DW.2 .nil passL rfl (g_Wrong T) (pa_cons (pe_op op_sub (pe_fld (pv 0) rfl) pe_int) pa_nil)))) pss_nil)
      (pss_cons (ps_fld (pv 0) (pe_lst pa_nil) rfl)
      (pss_one (ps_ret (pv 1))))))), rfl, ?_⟩
    try dsimp only [cxOf]
    wtm_at "x"
    intro r hr0
    have n1 : r ≠ p := (ne_of_none hp hr0).symm
    have n2 : r ≠ l := (ne_of_none hl hr0).symm
    have er : cutV (iV held) none (some (-2)) = iV (blockRow held) := by
      rw [show ((-2 : Int)) = -((2 : Nat) : Int) from rfl, cut_toN (by decide), iV_length]
      unfold blockRow iV
      rw [List.map_take]
    rw [er]
    wtm_at "x"
    refine ⟨r, check, blockRow held, rfl, SqL.of upd_same, c0, c1, ?_⟩
    wtm_at "x"
    intro t1 ht1
    obtain ⟨n3, ht1⟩ := upd_none ht1
    obtain ⟨n4, ht10⟩ := upd_none ht1
    have n5 : t1 ≠ l := (ne_of_none hl ht10).symm
    have et : cutV (iV held) (some (-2)) none = iV (blockTail held) := by
      rw [show ((-2 : Int)) = -((2 : Nat) : Int) from rfl, cut_fromN (by decide), iV_length]
      unfold blockTail iV
      rw [List.map_drop]
    rw [et]
    wtm_at "x"
    refine ⟨checkAll check (blockRow held), rfl, fun t2 ht2 => ?_⟩
    obtain ⟨n6, ht2⟩ := upd_none ht2
    obtain ⟨n7, ht2⟩ := upd_none ht2
    obtain ⟨n8, ht20⟩ := upd_none ht2
    have n9 : t2 ≠ l := (ne_of_none hl ht20).symm
    refine x_neD (dp_row (r := blockTail held) (SqL.of (by wtm_at "h"))) (dp_row (r := checkBytes (checkAll check (blockRow held))) (SqL.of upd_same)) (row_shaped _) (row_shaped _) ?_
    rw [row_eqv]
    wtm_at "x"
    refine ite_nd (fun hc => ?_) fun hc => ?_
    · refine x_wrong (fun R k => by wtm_at "x"; exact k) ?_
      exact wrong_go (qw hc) (by wtm_at "only") (by simp)
    · wtm_at "x"
      intro l' hl'
      obtain ⟨m1, hl'⟩ := upd_none hl'
      obtain ⟨m2, hl'⟩ := upd_none hl'
      obtain ⟨m3, hl'⟩ := upd_none hl'
      obtain ⟨m4, hl'0⟩ := upd_none hl'
      wtm_at "x"
      exact q hc _ l' r ⟨dx, by wtm_at "h", (show _ = some (HO.lst []) by wtm_at "h")⟩ hl'0 hr0 (by wtm_at "h") (by wtm_at "only")
theorem ok_ChecksReader_take (T : Tx K mg) : DefOk P w K mg base 4 (He.ma K (He.ga K "ChecksReader") "take") ["self", "byte"] (spRTake K isChecksR) := by
  have M_ChecksReader_block := meth1 (cl_ChecksReader T) (me_ChecksReader_block T) (ok_ChecksReader_block (P := P) (w := w) (base := base) T)
  refine def_ok (N := n_ChecksReader_take) (fn_ChecksReader_take T) sc_ChecksReader_take (fun _ _ _ _ _ _ us hl => match us, hl with | [_, _], _ => rfl) (fun vs H Q E h => ?_) (fun cdv A outer s H vs Q E hr h => ?_)
  · obtain ⟨p, l, st, b, rfl, _⟩ := h
    rfl
  · obtain ⟨p, l, st, b, rfl, hst, hw, hk, hb, q, qw⟩ := h
    cases st <;> simp only [isChecksR] at hst
    rename_i size done check held
    obtain ⟨dx, hp, hl⟩ := hw
    obtain ⟨k1, k2, k3, k4, k5, k6⟩ := hk
    have hpl : p ≠ l := ne_of hp hl (by intro z; cases z)
    have hln : (iV held).length < sizeLine := by rw [iV_length, sizeLine_eq]; omega
    refine ⟨_, [_, _], (pss_cons (ps_fld (pv 0) (pe_op op_add (pe_fld (pv 0) rfl) pe_int) rfl)
      (pss_cons (ps_expr (pe_bm PySem.F.plainAttrs_list PySem.F.slot_list_append PySem.F.type_list_append mt_append (pe_fld (pv 0) rfl) (pa_cons (pv 1) pa_nil)))
      (pss_cons (ps_if (pt_cmpR op_eq (pe_callB call_lenS rfl (f_len T) (by decide +kernel) (pa_cons (pe_fld (pv 0) rfl) pa_nil)) (pe_op op_add (pe_fld (pv 0) rfl) pe_int) (nomark _)) (pss_one (ps_ret (pe_mm0 M_ChecksReader_block (hr.mono (by first | decide | omega)) (fun σ => passAt (takes_of rfl rfl rfl rfl) σ) (pv 0)))) pss_nil)
      (pss_one (ps_ret (pe_lst pa_nil)))))), rfl, ?_⟩
    try dsimp only [cxOf]
    wtm_at "x"
    have ea : iV held ++ [V.int b] = iV (held ++ [b]) := by rw [iV_append]; rfl
    rw [ea, iV_length]
    refine ite_d (fun hc => ?_) fun hc => ?_
    · wtm_at "x"
      refine ⟨p, l, dx, size, done + 1, check, held ++ [b], rfl, by wtm_at "h", by wtm_at "h", k3, k4, fun ht H' l' r hw' hl' hr hr' ho => ?_, fun ht => ?_⟩
      · obtain ⟨_, hl'⟩ := upd_none hl'
        obtain ⟨_, hl'0⟩ := upd_none hl'
        obtain ⟨_, hr⟩ := upd_none hr
        obtain ⟨_, hr0⟩ := upd_none hr
        refine q _ (.checks size (done + 1) (checkAll check (blockRow (held ++ [b]))) []) ?_ _ l' r hw' (Or.inr hl'0) hr0 hr' (Only'.trans (by wtm_at "only") ho)
        simp only [rtake]
        rw [if_pos hc, if_pos ht]
      · have e2 : done + 1 - 1 = done := by omega
        rw [e2]
        refine wrong_go (qw done ?_) (by wtm_at "only") (by simp)
        simp only [rtake]
        rw [if_pos hc, if_neg ht]
    · wtm_at "x"
      intro r hr
      obtain ⟨_, hr⟩ := upd_none hr
      obtain ⟨_, hr0⟩ := upd_none hr
      have n1 : r ≠ l := (ne_of_none hl hr0).symm
      refine q [] (.checks size (done + 1) check (held ++ [b])) ?_ _ l r ⟨dx, by wtm_at "h", by wtm_at "h"⟩ (Or.inl rfl) hr0 upd_same (by wtm_at "only")
      simp only [rtake]
      rw [if_neg hc]
theorem ok_ChecksReader_end (T : Tx K mg) : DefOk P w K mg base 4 (He.ma K (He.ga K "ChecksReader") "end") ["self"] (spREnd K isChecksR) := by
  have M_ChecksReader_block := meth1 (cl_ChecksReader T) (me_ChecksReader_block T) (ok_ChecksReader_block (P := P) (w := w) (base := base) T)
  refine def_ok (N := n_ChecksReader_end) (fn_ChecksReader_end T) sc_ChecksReader_end (fun _ _ _ _ _ _ us hl => match us, hl with | [_], _ => rfl) (fun vs H Q E h => ?_) (fun cdv A outer s H vs Q E hr h => ?_)
  · obtain ⟨p, l, st, rfl, _⟩ := h
    rfl
  · obtain ⟨p, l, st, rfl, hst, hw, hk, q, qc, qw⟩ := h
    cases st <;> simp only [isChecksR] at hst
    rename_i size done check held
    obtain ⟨dx, hp, hl⟩ := hw
    obtain ⟨k1, k2, k3, k4, k5, k6⟩ := hk
    refine ⟨_, [_], (pss_cons (ps_if (pt_cmpR op_lt (pe_callB call_lenS rfl (f_len T) (by decide +kernel) (pa_cons (pe_fld (pv 0) rfl) pa_nil)) pe_int (nomark _)) (pss_one (ps_raise rfl (takes_of rfl rfl rfl rfl) (pmk_own PySem.F.excBase_ValueError (xc_Cut T).1 (g_Cut T) (xc_Cut T).2.1 (raises_own (xc_Cut T).2.2.1 (xc_Cut T).2.2.2) rfl))) pss_nil)
      (pss_one (ps_ret (pe_mm0 M_ChecksReader_block (hr.mono (by first | decide | omega)) (fun σ => passAt (takes_of rfl rfl rfl rfl) σ) (pv 0))))), rfl, ?_⟩
    try dsimp only [cxOf]
    wtm_at "x"
    rw [iV_length]
    refine ite_d (fun hc => ?_) fun hc => ?_
    · exact qc (if_pos hc) _ Only'.refl
    · wtm_at "x"
      refine ⟨p, l, dx, size, done, check, held, rfl, hp, hl, k3, k4, fun ht H' l' r hw' hl' hr hr' ho => ?_, fun ht => ?_⟩
      · refine q _ ?_ _ r hr hr' ho
        simp only [rend]
        rw [if_neg hc, if_pos ht]
      · refine qw _ ?_
        simp only [rend]
        rw [if_neg hc, if_neg ht]
/-! ### SignsReader -/
theorem ok_SignsReader_init (T : Tx K mg) : DefOk P w K mg base 1 (He.ma K (He.ga K "SignsReader") "__init__") ["self"] (spRInit K (He.ga K "SignsReader") fun a H st => a = [] ∧ st = .signs 0 0 0) := by
  refine def_ok (N := n_SignsReader_init) (fn_SignsReader_init T) sc_SignsReader_init (fun _ _ _ _ _ _ us hl => match us, hl with | [_], _ => rfl) (fun vs H Q E h => ?_) (fun cdv A outer s H vs Q E hr h => ?_)
  · obtain ⟨p, dx, a, st, rfl, _, _, ⟨rfl, _⟩, _⟩ := h
    rfl
  · obtain ⟨p, dx, a, st, rfl, hp, hd, ⟨rfl, rfl⟩, q⟩ := h
    have hpd : dx ≠ p := ne_of hd hp (by intro z; cases z)
    refine ⟨_, [_], (pss_cons (ps_fld (pv 0) pe_int rfl)
      (pss_cons (ps_fld (pv 0) pe_int rfl)
      (pss_one (ps_fld (pv 0) pe_int rfl)))), rfl, ?_⟩
    try dsimp only [cxOf]
    wtm_at "x"
    exact q _ dx ⟨by wtm_at "h", by wtm_at "h"⟩ (Or.inl rfl) (by wtm_at "only")
theorem ok_SignsReader_take (T : Tx K mg) : DefOk P w K mg base 3 (He.ma K (He.ga K "SignsReader") "take") ["self", "byte"] (spRTake K isSignsR) := by
  obtain ⟨fdW, DW⟩ := ok_Wrong_init (P := P) (w := w) (base := base) T
  refine def_ok (N := n_SignsReader_take) (fn_SignsReader_take T) sc_SignsReader_take (fun _ _ _ _ _ _ us hl => match us, hl with | [_, _], _ => rfl) (fun vs H Q E h => ?_) (fun cdv A outer s H vs Q E hr h => ?_)
  · obtain ⟨p, l, st, b, rfl, _⟩ := h
    rfl
  · obtain ⟨p, l, st, b, rfl, hst, hw, hk, hb, q, qw⟩ := h
    cases st <;> simp only [isSignsR] at hst
    rename_i done many value
    obtain ⟨hp, hl⟩ := hw
    obtain ⟨k1, k2, k3⟩ := hk
    have hpl : l ≠ p := ne_of hl hp (by intro z; cases z)
    refine ⟨_, [_, _, _, _], (pss_cons (ps_set (i := 2) sc_SignsReader_take.nd rfl (Or.inl rfl) (pe_fld (pv 0) rfl))
      (pss_cons (ps_fld (pv 0) (pe_op op_add (pv 2) pe_int) rfl)
      (pss_cons (ps_if (pt_cmpR op_notIn_seq (pv 1) (pe_gr (g_SIGNS T)) (by rfl)) (pss_one (ps_raise rfl (takes_of rfl rfl rfl rfl) (pmk_oex (oex_Wrong T) (me_Wrong_init T).at_ (fnT (me_Wrong_init T)) DW.1 (hr.mono (by first | decide | omega)) DW.2 .nil passL rfl (g_Wrong T) (pa_cons (pv 2) pa_nil)))) pss_nil)
      (pss_cons (ps_fld (pv 0) (pe_op op_add (pe_op op_mul (pe_fld (pv 0) rfl) pe_int) (pe_bm PySem.F.plainAttrs_tuple PySem.F.slot_tuple_index PySem.F.type_tuple_index mt_tupIx (pe_gr (g_SIGNS T)) (pa_cons (pv 1) pa_nil))) rfl)
      (pss_cons (ps_fld (pv 0) (pe_op op_add (pe_fld (pv 0) rfl) pe_int) rfl)
      (pss_cons (ps_if (pt_cmpR op_lt (pe_fld (pv 0) rfl) pe_int (nomark _)) (pss_one (ps_ret (pe_lst pa_nil))) pss_nil)
      (pss_cons (ps_fld (pv 0) (pe_op op_sub (pe_fld (pv 0) rfl) pe_int) rfl)
      (pss_cons (ps_set (i := 3) sc_SignsReader_take.nd rfl (Or.inl rfl) (pe_op op_fdivN (pe_fld (pv 0) rfl) (pe_ix ix_tup (pe_gr (g_POWERS T)) (pe_fld (pv 0) rfl) (fun _ _ => rfl))))
      (pss_cons (ps_fld (pv 0) (pe_op op_modN (pe_fld (pv 0) rfl) (pe_ix ix_tup (pe_gr (g_POWERS T)) (pe_fld (pv 0) rfl) (fun _ _ => rfl))) rfl)
      (pss_one (ps_ret (pe_lst (pa_cons (pv 3) pa_nil))))))))))))), rfl, ?_⟩
    try dsimp only [cxOf]
    wtm_at "x"
    refine x_ninI (Or.inr (t_SIGNS T _)) ?_
    wtm_at "x"
    refine ite_nd (fun hc => ?_) fun hc => ?_
    · refine x_wrong (fun R k => by wtm_at "x"; exact k) ?_
      refine wrong_go (qw done ?_) (by wtm_at "only") (by simp)
      simp only [rtake]
      rw [if_neg hc]
    · wtm_at "x"
      refine ⟨Or.inr (Or.inl ⟨rfl, nd_SIGNS T⟩), ?_⟩
      wtm_at "x"
      refine x_tupIx (t_SIGNS T _) hc ?_
      wtm_at "x"
      refine ite_d (fun hc2 => ?_) fun hc2 => ?_
      · wtm_at "x"
        intro r hr
        obtain ⟨_, hr⟩ := upd_none hr
        obtain ⟨_, hr⟩ := upd_none hr
        obtain ⟨_, hr0⟩ := upd_none hr
        refine q [] (.signs (done + 1) (many + 6) (value * 64 + (signsT.idxOf b : Int))) ?_ _ l r ⟨by wtm_at "h", by wtm_at "h"⟩ (Or.inl rfl) hr0 upd_same (by wtm_at "only")
        simp only [rtake]
        rw [if_pos hc, if_pos hc2]
      · have e1 : many + 6 - 8 = many - 2 := by omega
        have hix : atI (iV powersT) (many - 2) = some (V.int (pow2 (many - 2))) := gI_at (by omega) (by show many - 2 < 8; omega)
        have hpw : 0 < pow2 (many - 2) ∧ pow2 (many - 2) ≤ 16 := by
          rcases k1 with rfl | rfl | rfl | rfl
          · omega
          · exact ⟨by decide, by decide⟩
          · exact ⟨by decide, by decide⟩
          · exact ⟨by decide, by decide⟩
        have hfd : (value * 64 + (signsT.idxOf b : Int)).fdiv (pow2 (many - 2)) = (value * 64 + (signsT.idxOf b : Int)) / pow2 (many - 2) := fdiv_pos (by omega)
        have hfm : (value * 64 + (signsT.idxOf b : Int)).fmod (pow2 (many - 2)) = (value * 64 + (signsT.idxOf b : Int)) % pow2 (many - 2) := fmod_pos (by omega)
        wtm_at "x"
        rw [e1]
        refine x_ixT (t_POWERS T _) hix ?_
        wtm_at "x"
        rw [hfd]
        refine x_ixT (t_POWERS T _) hix ?_
        wtm_at "x"
        rw [hfm]
        intro r hr
        obtain ⟨_, hr⟩ := upd_none hr
        obtain ⟨_, hr⟩ := upd_none hr
        obtain ⟨_, hr⟩ := upd_none hr
        obtain ⟨_, hr⟩ := upd_none hr
        obtain ⟨_, hr0⟩ := upd_none hr
        refine q [(value * 64 + (signsT.idxOf b : Int)) / pow2 (many - 2)] (.signs (done + 1) (many - 2) ((value * 64 + (signsT.idxOf b : Int)) % pow2 (many - 2))) ?_ _ l r ⟨by wtm_at "h", by wtm_at "h"⟩ (Or.inl rfl) hr0 upd_same (by wtm_at "only")
        simp only [rtake]
        rw [if_pos hc, if_neg hc2]
theorem ok_SignsReader_end (T : Tx K mg) : DefOk P w K mg base 3 (He.ma K (He.ga K "SignsReader") "end") ["self"] (spREnd K isSignsR) := by
  obtain ⟨fdW, DW⟩ := ok_Wrong_init (P := P) (w := w) (base := base) T
  refine def_ok (N := n_SignsReader_end) (fn_SignsReader_end T) sc_SignsReader_end (fun _ _ _ _ _ _ us hl => match us, hl with | [_], _ => rfl) (fun vs H Q E h => ?_) (fun cdv A outer s H vs Q E hr h => ?_)
  · obtain ⟨p, l, st, rfl, _⟩ := h
    rfl
  · obtain ⟨p, l, st, rfl, hst, hw, hk, q, qc, qw⟩ := h
    cases st <;> simp only [isSignsR] at hst
    rename_i done many value
    obtain ⟨hp, hl⟩ := hw
    refine ⟨_, [_], (pss_cons (ps_if (pt_cmpR op_eq (pe_fld (pv 0) rfl) pe_int (nomark _)) (pss_one (ps_raise rfl (takes_of rfl rfl rfl rfl) (pmk_own PySem.F.excBase_ValueError (xc_Cut T).1 (g_Cut T) (xc_Cut T).2.1 (raises_own (xc_Cut T).2.2.1 (xc_Cut T).2.2.2) rfl))) pss_nil)
      (pss_cons (ps_if (pt_cmpR op_gt (pe_fld (pv 0) rfl) pe_int (nomark _)) (pss_one (ps_raise rfl (takes_of rfl rfl rfl rfl) (pmk_oex (oex_Wrong T) (me_Wrong_init T).at_ (fnT (me_Wrong_init T)) DW.1 (hr.mono (by first | decide | omega)) DW.2 .nil passL rfl (g_Wrong T) (pa_cons (pe_op op_sub (pe_fld (pv 0) rfl) pe_int) pa_nil)))) pss_nil)
      (pss_one (ps_ret (pe_lst pa_nil))))), rfl, ?_⟩
    try dsimp only [cxOf]
    wtm_at "x"
    refine ite_d (fun hc => ?_) fun hc => ?_
    · exact qc (if_pos hc) _ Only'.refl
    · wtm_at "x"
      refine ite_d (fun hc2 => ?_) fun hc2 => ?_
      · refine x_wrong (fun R k => by wtm_at "x"; exact k) ?_
        refine wrong_go (qw (done - 1) ?_) Only'.refl (by simp)
        simp only [rend]
        rw [if_neg hc, if_pos hc2]
      · wtm_at "x"
        intro r hr
        refine q [] ?_ _ r hr upd_same (by wtm_at "only")
        simp only [rend]
        rw [if_neg hc, if_neg hc2]
end
end Flow

namespace Flow
open PySem PySem.Spec PyProof.Rows L2
theorem RAt_parts (K : PySem.W.Frag) : PartsP (RAt K) := by
  constructor
  · intro H H' p l s h hp hl
    cases s <;> simp only [RAt] at h ⊢
    · obtain ⟨dx, h1, h2⟩ := h
      exact ⟨dx, hp _ h1, hl _ h2⟩
    · obtain ⟨dx, h1, h2⟩ := h
      exact ⟨dx, hp _ h1, hl _ h2⟩
    · obtain ⟨dx, h1, h2⟩ := h
      exact ⟨dx, hp _ h1, hl _ h2⟩
    · obtain ⟨dx, h1, h2⟩ := h
      exact ⟨dx, hp _ h1, hl _ h2⟩
    · exact ⟨hp _ h.1, hl _ h.2⟩
    · obtain ⟨dx, h1, h2⟩ := h
      exact ⟨dx, hp _ h1, hl _ h2⟩
    · exact ⟨hp _ h.1, hl _ h.2⟩
  · intro H p l s h
    cases s <;> simp only [RAt] at h
    · obtain ⟨dx, h1, h2⟩ := h
      exact ⟨⟨_, h1⟩, ⟨_, h2⟩⟩
    · obtain ⟨dx, h1, h2⟩ := h
      exact ⟨⟨_, h1⟩, ⟨_, h2⟩⟩
    · obtain ⟨dx, h1, h2⟩ := h
      exact ⟨⟨_, h1⟩, ⟨_, h2⟩⟩
    · obtain ⟨dx, h1, h2⟩ := h
      exact ⟨⟨_, h1⟩, ⟨_, h2⟩⟩
    · exact ⟨⟨_, h.1⟩, ⟨_, h.2⟩⟩
    · obtain ⟨dx, h1, h2⟩ := h
      exact ⟨⟨_, h1⟩, ⟨_, h2⟩⟩
    · exact ⟨⟨_, h.1⟩, ⟨_, h.2⟩⟩
theorem RAt_ins {K : PySem.W.Frag} {H : Hp} {p l : Addr} {s : RSt} (h : RAt K H p l s) : ∃ dx fs, H p = some (.ins (He.ga K (RName s)) dx fs) ∧ fs.lookup ("take" : Str) = none ∧ fs.lookup ("end" : Str) = none := by
  cases s <;> simp only [RAt] at h
  · obtain ⟨dx, h1, h2⟩ := h
    exact ⟨_, _, h1, by kernel_rfl, by kernel_rfl⟩
  · obtain ⟨dx, h1, h2⟩ := h
    exact ⟨_, _, h1, by kernel_rfl, by kernel_rfl⟩
  · obtain ⟨dx, h1, h2⟩ := h
    exact ⟨_, _, h1, by kernel_rfl, by kernel_rfl⟩
  · obtain ⟨dx, h1, h2⟩ := h
    exact ⟨_, _, h1, by kernel_rfl, by kernel_rfl⟩
  · exact ⟨_, _, h.1, by kernel_rfl, by kernel_rfl⟩
  · obtain ⟨dx, h1, h2⟩ := h
    exact ⟨_, _, h1, by kernel_rfl, by kernel_rfl⟩
  · exact ⟨_, _, h.1, by kernel_rfl, by kernel_rfl⟩
def isLikeR : RSt → RSt → Prop
  | .add _ _ => isAddR
  | .front _ => isFrontR
  | .esc _ _ _ => isEscR
  | .runs _ _ _ _ => isRunsR
  | .chunks _ _ _ _ => isChunksR
  | .checks _ _ _ _ => isChecksR
  | .signs _ _ _ => isSignsR
theorem isLikeR_self (s : RSt) : isLikeR s s := by cases s <;> trivial
section
variable {P : Program} {w : World} {K : PySem.W.Frag} {mg : Str → Option Value} {base : Heap}
theorem rtake_meth (T : Tx K mg) (s : RSt) : MethOk P w K mg base 5 (He.ga K (RName s)) "take" ["self", "byte"] (spRTake K (isLikeR s)) := by
  cases s
  · exact ⟨cl_AddReader T, _, me_AddReader_take T, (ok_AddReader_take T).mono (by decide)⟩
  · exact ⟨cl_FrontReader T, _, me_FrontReader_take T, (ok_FrontReader_take T).mono (by decide)⟩
  · exact ⟨cl_EscapeReader T, _, me_EscapeReader_take T, (ok_EscapeReader_take T).mono (by decide)⟩
  · exact ⟨cl_RunsReader T, _, me_RunsReader_take T, (ok_RunsReader_take T).mono (by decide)⟩
  · exact ⟨cl_ChunksReader T, _, me_ChunksReader_take T, (ok_ChunksReader_take T).mono (by decide)⟩
  · exact ⟨cl_ChecksReader T, _, me_ChecksReader_take T, (ok_ChecksReader_take T).mono (by decide)⟩
  · exact ⟨cl_SignsReader T, _, me_SignsReader_take T, (ok_SignsReader_take T).mono (by decide)⟩
theorem rend_meth (T : Tx K mg) (s : RSt) : MethOk P w K mg base 5 (He.ga K (RName s)) "end" ["self"] (spREnd K (isLikeR s)) := by
  cases s
  · exact ⟨cl_AddReader T, _, me_AddReader_end T, (ok_AddReader_end T).mono (by decide)⟩
  · exact ⟨cl_FrontReader T, _, me_FrontReader_end T, (ok_FrontReader_end T).mono (by decide)⟩
  · exact ⟨cl_EscapeReader T, _, me_EscapeReader_end T, (ok_EscapeReader_end T).mono (by decide)⟩
  · exact ⟨cl_RunsReader T, _, me_RunsReader_end T, (ok_RunsReader_end T).mono (by decide)⟩
  · exact ⟨cl_ChunksReader T, _, me_ChunksReader_end T, (ok_ChunksReader_end T).mono (by decide)⟩
  · exact ⟨cl_ChecksReader T, _, me_ChecksReader_end T, (ok_ChecksReader_end T).mono (by decide)⟩
  · exact ⟨cl_SignsReader T, _, me_SignsReader_end T, (ok_SignsReader_end T).mono (by decide)⟩
theorem x_rtake (T : Tx K mg) {H : Hp} {p l : Addr} {s : RSt} {b : Int} {E : XK} {ta : TE} {σ : L2.St} {Q : VK} (hw : RAt K H p l s) (hk : ROk s) (hb : By b) (ha : ∀ R : VK, R (.int b) H → ta σ H R)
    (q : ∀ (row : Row) (s' : RSt), rtake s b = .ok row s' → ∀ (H' : Hp) (l' r : Addr), RAt K H' p l' s' → (l' = l ∨ H l' = none) → H r = none → H' r = some (.lst (iV row)) → Only' [p, l] H H' → Q (.ref r) H')
    (qw : ∀ place, rtake s b = .wrong place → wrongX K [p, l] H place E) :
    rMu P w K mg base 5 "take" ["self", "byte"] E (tCons ta tNil) σ (.ref p) H Q := by
  obtain ⟨dx, fs, hp, h1, h2⟩ := RAt_ins hw
  refine x_rMu hp (rtake_meth T s) h1 ?_
  refine ha _ ?_
  exact ⟨p, l, s, b, rfl, isLikeR_self s, hw, hk, hb, q, qw⟩
theorem x_rend (T : Tx K mg) {H : Hp} {p l : Addr} {s : RSt} {E : XK} {σ : L2.St} {Q : VK} (hw : RAt K H p l s) (hk : ROk s)
    (q : ∀ (row : Row), rend s = .ok row → ∀ (H' : Hp) (r : Addr), H r = none → H' r = some (.lst (iV row)) → Only' [p, l] H H' → Q (.ref r) H')
    (qc : rend s = .cut → ∀ H', Only' [p, l] H H' → E (.ref (He.ga K "Cut")) none H') (qw : ∀ place, rend s = .wrong place → wrongX K [p, l] H place E) :
    rMu P w K mg base 5 "end" ["self"] E tNil σ (.ref p) H Q := by
  obtain ⟨dx, fs, hp, h1, h2⟩ := RAt_ins hw
  refine x_rMu hp (rend_meth T s) h2 ?_
  exact ⟨p, l, s, rfl, isLikeR_self s, hw, hk, q, qc, qw⟩
def spReaderOf (K : PySem.W.Frag) : Sp := fun vs H Q _ => ∃ (t : Addr) (ly : Lay), vs = [.ref t] ∧ SqT K H t (layV ly) ∧ ly.Ok ∧
  ∀ (H' : Hp) (p l : Addr), RAt K H' p l (newR ly) → H p = none → H l = none → p ≠ l → Ext H H' → Q (.ref p) H'
theorem made_r {H H' : Hp} {x dx l C : Addr} {s : RSt} (nx : H x = none) (ndx : H dx = none) (ne : dx ≠ x) (hw : RAt K H' x l s) (hl : l = dx ∨ (upd (upd H dx (.own x)) x (.ins C dx [])) l = none) (o : Only' [x] (upd (upd H dx (.own x)) x (.ins C dx [])) H') :
    H l = none ∧ x ≠ l ∧ Ext H H' := by
  have e0 : Ext H (upd (upd H dx (.own x)) x (.ins C dx [])) := (Only'.put0 Only'.refl ndx).put0 nx
  refine ⟨?_, ?_, ?_⟩
  · rcases hl with h | h
    · rw [h]; exact ndx
    · exact (upd_none (upd_none h).2).2
  · rcases hl with h | h
    · rw [h]; exact ne.symm
    · exact (upd_none h).1.symm
  · refine ⟨fun b u hb _ => ?_, fun b u hb => ?_⟩
    · exact o b u (e0 b u hb (by simp)) (by simp; exact ne_of_none hb nx)
    · obtain ⟨u1, h1⟩ := e0.more b u hb
      exact o.more b u1 h1
theorem ok_reader_of (T : Tx K mg) : DefOk P w K mg base 3 (He.ga K "reader_of") ["layer"] (spReaderOf K) := by
  have D_AddReader : MakeOk P w K mg base 1 (He.ga K "AddReader") _ _ := ⟨_, mk_AddReader T, ok_AddReader_init T⟩
  have D_FrontReader : MakeOk P w K mg base 1 (He.ga K "FrontReader") _ _ := ⟨_, mk_FrontReader T, ok_FrontReader_init T⟩
  have D_EscapeReader : MakeOk P w K mg base 1 (He.ga K "EscapeReader") _ _ := ⟨_, mk_EscapeReader T, ok_EscapeReader_init T⟩
  have D_RunsReader : MakeOk P w K mg base 1 (He.ga K "RunsReader") _ _ := ⟨_, mk_RunsReader T, ok_RunsReader_init T⟩
  have D_ChunksReader : MakeOk P w K mg base 1 (He.ga K "ChunksReader") _ _ := ⟨_, mk_ChunksReader T, ok_ChunksReader_init T⟩
  have D_ChecksReader : MakeOk P w K mg base 1 (He.ga K "ChecksReader") _ _ := ⟨_, mk_ChecksReader T, ok_ChecksReader_init T⟩
  have D_SignsReader : MakeOk P w K mg base 1 (He.ga K "SignsReader") _ _ := ⟨_, mk_SignsReader T, ok_SignsReader_init T⟩
  refine def_ok (N := n_reader_of) (fn_reader_of T) sc_reader_of (fun _ _ _ _ _ _ us hl => match us, hl with | [_], _ => rfl) (fun vs H Q E h => ?_) (fun cdv A outer s H vs Q E hr h => ?_)
  · obtain ⟨t, ly, rfl, _⟩ := h
    rfl
  · obtain ⟨t, ly, rfl, ht, hok, q⟩ := h
    have hk : atI (layV ly) 0 = some (.str (lkind ly)) := ix_kind _ _
    refine ⟨_, [_], (pss_cons (ps_if (pt_cmpR op_eq (pe_ix ix_tup (pv 0) pe_int (fun _ _ => rfl)) pe_str (nomark _)) (pss_one (ps_ret (pe_mk D_AddReader (g_AddReader T) (hr.mono (by first | decide | omega)) (fun _ => passE) (pa_cons (pe_slice sl_tup (pv 0) (po_some pe_int) po_none) pa_nil)))) pss_nil)
      (pss_cons (ps_if (pt_cmpR op_eq (pe_ix ix_tup (pv 0) pe_int (fun _ _ => rfl)) pe_str (nomark _)) (pss_one (ps_ret (pe_mk0 D_FrontReader (g_FrontReader T) (hr.mono (by first | decide | omega)) (fun _ => passE)))) pss_nil)
      (pss_cons (ps_if (pt_cmpR op_eq (pe_ix ix_tup (pv 0) pe_int (fun _ _ => rfl)) pe_str (nomark _)) (pss_one (ps_ret (pe_mk D_EscapeReader (g_EscapeReader T) (hr.mono (by first | decide | omega)) (fun _ => passE) (pa_cons (pe_ix ix_tup (pv 0) pe_int (fun _ _ => rfl)) pa_nil)))) pss_nil)
      (pss_cons (ps_if (pt_cmpR op_eq (pe_ix ix_tup (pv 0) pe_int (fun _ _ => rfl)) pe_str (nomark _)) (pss_one (ps_ret (pe_mk0 D_RunsReader (g_RunsReader T) (hr.mono (by first | decide | omega)) (fun _ => passE)))) pss_nil)
      (pss_cons (ps_if (pt_cmpR op_eq (pe_ix ix_tup (pv 0) pe_int (fun _ _ => rfl)) pe_str (nomark _)) (pss_one (ps_ret (pe_mk D_ChunksReader (g_ChunksReader T) (hr.mono (by first | decide | omega)) (fun _ => passE) (pa_cons (pe_ix ix_tup (pv 0) pe_int (fun _ _ => rfl)) pa_nil)))) pss_nil)
      (pss_cons (ps_if (pt_cmpR op_eq (pe_ix ix_tup (pv 0) pe_int (fun _ _ => rfl)) pe_str (nomark _)) (pss_one (ps_ret (pe_mk D_ChecksReader (g_ChecksReader T) (hr.mono (by first | decide | omega)) (fun _ => passE) (pa_cons (pe_ix ix_tup (pv 0) pe_int (fun _ _ => rfl)) pa_nil)))) pss_nil)
      (pss_one (ps_ret (pe_mk0 D_SignsReader (g_SignsReader T) (hr.mono (by first | decide | omega)) (fun _ => passE)))))))))), rfl, ?_⟩
    try dsimp only [cxOf]
    wtm_at "x"
    refine x_ixT ht hk ?_
    wtm_at "x"
    refine ite_d (fun h0 => ?_) fun h0 => ?_
    · cases ly <;> first | exact absurd (show ("add" : Str) = _ from h0) (by decide +kernel) | exact absurd (show ("front" : Str) = _ from h0) (by decide +kernel) | exact absurd (show ("escape" : Str) = _ from h0) (by decide +kernel) | exact absurd (show ("runs" : Str) = _ from h0) (by decide +kernel) | exact absurd (show ("chunks" : Str) = _ from h0) (by decide +kernel) | exact absurd (show ("checks" : Str) = _ from h0) (by decide +kernel) | exact absurd (show ("signs" : Str) = _ from h0) (by decide +kernel) | skip
      rename_i key
      wtm_at "x"
      refine x_slT ht (by unfold layV; rw [rawV_len]; intro z; have := z.1; unfold HT.sIx at this; simp at this) fun t2 ht2 => ?_
      rw [show cutV (layV (Lay.add key)) (some 1) none = iV key from cut_from (k := 1) rfl]
      wtm_at "x"
      intro x dx nx ndx ne
      refine ⟨x, dx, [.ref t2], .add key 0, rfl, upd_same, by rw [upd_ne ne, upd_same], ⟨t2, key, rfl, rfl, ?_⟩, fun H' l hw hl o => ⟨rfl, ?_⟩⟩
      · exact SqT.ext ((Only'.put0 Only'.refl ndx).put0 nx) (SqT.of upd_same)
      · obtain ⟨m1, m2, m3⟩ := made_r nx ndx ne hw hl o
        exact q _ x l hw (upd_none nx).2 (upd_none m1).2 m2 ((Only'.put0 Only'.refl ht2).trans m3)
    · wtm_at "x"
      refine x_ixT ht hk ?_
      wtm_at "x"
      refine ite_d (fun h1 => ?_) fun h1 => ?_
      · cases ly <;> first | exact absurd (show ("add" : Str) = _ from h1) (by decide +kernel) | exact absurd (show ("front" : Str) = _ from h1) (by decide +kernel) | exact absurd (show ("escape" : Str) = _ from h1) (by decide +kernel) | exact absurd (show ("runs" : Str) = _ from h1) (by decide +kernel) | exact absurd (show ("chunks" : Str) = _ from h1) (by decide +kernel) | exact absurd (show ("checks" : Str) = _ from h1) (by decide +kernel) | exact absurd (show ("signs" : Str) = _ from h1) (by decide +kernel) | skip
        wtm_at "x"
        intro x dx nx ndx ne
        refine ⟨x, dx, [], .front range256, rfl, upd_same, by rw [upd_ne ne, upd_same], ⟨rfl, rfl⟩, fun H' l hw hl o => ⟨rfl, ?_⟩⟩
        obtain ⟨m1, m2, m3⟩ := made_r nx ndx ne hw hl o
        exact q _ x l hw nx m1 m2 m3
      · wtm_at "x"
        refine x_ixT ht hk ?_
        wtm_at "x"
        refine ite_d (fun h2 => ?_) fun h2 => ?_
        · cases ly <;> first | exact absurd (show ("add" : Str) = _ from h2) (by decide +kernel) | exact absurd (show ("front" : Str) = _ from h2) (by decide +kernel) | exact absurd (show ("escape" : Str) = _ from h2) (by decide +kernel) | exact absurd (show ("runs" : Str) = _ from h2) (by decide +kernel) | exact absurd (show ("chunks" : Str) = _ from h2) (by decide +kernel) | exact absurd (show ("checks" : Str) = _ from h2) (by decide +kernel) | exact absurd (show ("signs" : Str) = _ from h2) (by decide +kernel) | skip
          rename_i e
          wtm_at "x"
          refine x_ixT ht (ix_arg (k := "escape") (xs := [e]) rfl) ?_
          wtm_at "x"
          intro x dx nx ndx ne
          refine ⟨x, dx, [.int e], .esc e 0 false, rfl, upd_same, by rw [upd_ne ne, upd_same], ⟨e, rfl, rfl⟩, fun H' l hw hl o => ⟨rfl, ?_⟩⟩
          obtain ⟨m1, m2, m3⟩ := made_r nx ndx ne hw hl o
          exact q _ x l hw nx m1 m2 m3
        · wtm_at "x"
          refine x_ixT ht hk ?_
          wtm_at "x"
          refine ite_d (fun h3 => ?_) fun h3 => ?_
          · cases ly <;> first | exact absurd (show ("add" : Str) = _ from h3) (by decide +kernel) | exact absurd (show ("front" : Str) = _ from h3) (by decide +kernel) | exact absurd (show ("escape" : Str) = _ from h3) (by decide +kernel) | exact absurd (show ("runs" : Str) = _ from h3) (by decide +kernel) | exact absurd (show ("chunks" : Str) = _ from h3) (by decide +kernel) | exact absurd (show ("checks" : Str) = _ from h3) (by decide +kernel) | exact absurd (show ("signs" : Str) = _ from h3) (by decide +kernel) | skip
            wtm_at "x"
            intro x dx nx ndx ne
            refine ⟨x, dx, [], .runs 0 0 0 0, rfl, upd_same, by rw [upd_ne ne, upd_same], ⟨rfl, rfl⟩, fun H' l hw hl o => ⟨rfl, ?_⟩⟩
            obtain ⟨m1, m2, m3⟩ := made_r nx ndx ne hw hl o
            exact q _ x l hw nx m1 m2 m3
          · wtm_at "x"
            refine x_ixT ht hk ?_
            wtm_at "x"
            refine ite_d (fun h4 => ?_) fun h4 => ?_
            · cases ly <;> first | exact absurd (show ("add" : Str) = _ from h4) (by decide +kernel) | exact absurd (show ("front" : Str) = _ from h4) (by decide +kernel) | exact absurd (show ("escape" : Str) = _ from h4) (by decide +kernel) | exact absurd (show ("runs" : Str) = _ from h4) (by decide +kernel) | exact absurd (show ("chunks" : Str) = _ from h4) (by decide +kernel) | exact absurd (show ("checks" : Str) = _ from h4) (by decide +kernel) | exact absurd (show ("signs" : Str) = _ from h4) (by decide +kernel) | skip
              rename_i n
              wtm_at "x"
              refine x_ixT ht (ix_arg (k := "chunks") (xs := [n]) rfl) ?_
              wtm_at "x"
              intro x dx nx ndx ne
              refine ⟨x, dx, [.int n], .chunks n 0 0 false, rfl, upd_same, by rw [upd_ne ne, upd_same], ⟨n, rfl, rfl⟩, fun H' l hw hl o => ⟨rfl, ?_⟩⟩
              obtain ⟨m1, m2, m3⟩ := made_r nx ndx ne hw hl o
              exact q _ x l hw nx m1 m2 m3
            · wtm_at "x"
              refine x_ixT ht hk ?_
              wtm_at "x"
              refine ite_d (fun h5 => ?_) fun h5 => ?_
              · cases ly <;> first | exact absurd (show ("add" : Str) = _ from h5) (by decide +kernel) | exact absurd (show ("front" : Str) = _ from h5) (by decide +kernel) | exact absurd (show ("escape" : Str) = _ from h5) (by decide +kernel) | exact absurd (show ("runs" : Str) = _ from h5) (by decide +kernel) | exact absurd (show ("chunks" : Str) = _ from h5) (by decide +kernel) | exact absurd (show ("checks" : Str) = _ from h5) (by decide +kernel) | exact absurd (show ("signs" : Str) = _ from h5) (by decide +kernel) | skip
                rename_i n
                wtm_at "x"
                refine x_ixT ht (ix_arg (k := "checks") (xs := [n]) rfl) ?_
                wtm_at "x"
                intro x dx nx ndx ne
                refine ⟨x, dx, [.int n], .checks n 0 0 [], rfl, upd_same, by rw [upd_ne ne, upd_same], ⟨n, rfl, rfl⟩, fun H' l hw hl o => ⟨rfl, ?_⟩⟩
                obtain ⟨m1, m2, m3⟩ := made_r nx ndx ne hw hl o
                exact q _ x l hw nx m1 m2 m3
              · cases ly <;> first | exact absurd rfl h0 | exact absurd rfl h1 | exact absurd rfl h2 | exact absurd rfl h3 | exact absurd rfl h4 | exact absurd rfl h5 | skip
                wtm_at "x"
                intro x dx nx ndx ne
                refine ⟨x, dx, [], .signs 0 0 0, rfl, upd_same, by rw [upd_ne ne, upd_same], ⟨rfl, rfl⟩, fun H' l hw hl o => ⟨rfl, ?_⟩⟩
                obtain ⟨m1, m2, m3⟩ := made_r nx ndx ne hw hl o
                exact q _ x l hw nx m1 m2 m3
end
end Flow

namespace Flow
open PySem PySem.Spec PyProof.Rows L2
section
variable {S : Type} {A : Hp → Addr → Addr → S → Prop} {X : List Addr} {H H1 H2 : Hp} {ps ps2 : List (Addr × Addr)} {ss ss2 : List S} {p l : Addr} {s : S}
theorem Good.tail (g : Good A H ((p, l) :: ps) (s :: ss)) : Good A H ps ss ∧ p ∉ flat ps ∧ l ∉ flat ps ∧ p ≠ l := by
  have nd : (p :: l :: flat ps).Nodup := g.nd
  have h1 := List.nodup_cons.mp nd
  have h2 := List.nodup_cons.mp h1.2
  refine ⟨⟨by simpa using g.len, fun i q m t a b => g.at_ (i + 1) q m t a b, h2.2⟩, fun z => h1.1 (List.mem_cons_of_mem _ z), h2.1, fun z => h1.1 (by rw [z]; exact List.mem_cons_self ..)⟩
theorem Step.cons (P : PartsP A) (g : Good A H1 ((p, l) :: ps) (s :: ss)) (st : Step A X H1 ps ss H2 ps2 ss2) (hp : p ∉ X) (hl : l ∉ X) : Step A X H1 ((p, l) :: ps) (s :: ss) H2 ((p, l) :: ps2) (s :: ss2) := by
  obtain ⟨gt, np, nl, ne⟩ := g.tail
  have h0 := g.at_ 0 p l s rfl rfl
  obtain ⟨⟨o1, e1⟩, ⟨o2, e2⟩⟩ := P.trk _ _ _ _ h0
  have np2 : p ∉ flat ps2 := fun z => by
    rcases st.old p z with y | y
    · exact np y
    · rw [e1] at y; cases y
  have nl2 : l ∉ flat ps2 := fun z => by
    rcases st.old l z with y | y
    · exact nl y
    · rw [e2] at y; cases y
  refine ⟨⟨by rw [List.length_cons, List.length_cons, st.good.len], fun i q m t a b => ?_, ?_⟩, ?_, fun x hx => ?_, ?_⟩
  · cases i with
    | zero =>
      have e3 := Option.some.inj a
      injection e3 with e4 e5
      have e6 : s = t := Option.some.inj b
      subst e4 e5 e6
      exact P.keep H1 H2 p l s h0 (fun u hu => st.only p u hu (by simp [hp, np])) (fun u hu => st.only l u hu (by simp [hl, nl]))
    | succ i => exact st.good.at_ i q m t a b
  · show (p :: l :: flat ps2).Nodup
    refine List.nodup_cons.mpr ⟨fun z => ?_, List.nodup_cons.mpr ⟨nl2, st.good.nd⟩⟩
    rcases List.mem_cons.mp z with z | z
    · exact ne z
    · exact np2 z
  · rw [List.map_cons, List.map_cons, st.fst]
  · have hx' : x ∈ p :: l :: flat ps2 := hx
    rcases List.mem_cons.mp hx' with z | z
    · exact Or.inl (by rw [z]; exact List.mem_cons_self ..)
    · rcases List.mem_cons.mp z with z | z
      · exact Or.inl (by rw [z]; exact List.mem_cons_of_mem _ (List.mem_cons_self ..))
      · rcases st.old x z with y | y
        · exact Or.inl (List.mem_cons_of_mem _ (List.mem_cons_of_mem _ y))
        · exact Or.inr y
  · refine st.only.mono fun a ha => ?_
    rcases List.mem_append.mp ha with z | z
    · exact List.mem_append_left _ z
    · exact List.mem_append_right _ (List.mem_cons_of_mem _ (List.mem_cons_of_mem _ z))
end
def faultV : Fault → List V
  | .wrong at_ place => [.str "wrong", .int at_, .int place]
  | .cut at_ => [.str "cut", .int at_]
def spOne (K : PySem.W.Frag) (n : Nat) : Sp := fun vs H Q _ => ∃ (p c dx : Addr) (rest : List V) (ps : List (Addr × Addr)) (ss : List RSt) (b : Int), vs = [.ref p, .int ((n : Int) - 1), .int b] ∧
  H p = some (.ins (He.ga K "Reader") dx [("parts", .ref c), ("fault", .non)]) ∧ H c = some (.lst (pV ps.reverse ++ rest)) ∧ Good (RAt K) H ps ss ∧ ps.length = n ∧ p ∉ flat ps ∧ c ∉ flat ps ∧ ROks ss ∧ By b ∧ (rone n ss b).1.length ≤ 16777216 ∧
  ((rone n ss b).2.2 = none → ∀ (H' : Hp) (r : Addr) (ps' : List (Addr × Addr)), Step (RAt K) [] H ps ss H' ps' (rone n ss b).2.1 → H' r = some (.lst (iV (rone n ss b).1)) → H r = none → r ∉ flat ps' → Q (.ref r) H') ∧
  (∀ f, (rone n ss b).2.2 = some f → ∀ (H' : Hp) (r t : Addr), H' p = some (.ins (He.ga K "Reader") dx [("parts", .ref c), ("fault", .ref t)]) → H' t = some (.tup (faultV f)) → H t = none → H r = none → H' r = some (.lst (iV (rone n ss b).1)) → Only' (p :: flat ps) H H' → Q (.ref r) H')
theorem def_none {P : Program} {w : World} {K : PySem.W.Frag} {mg : Str → Option Value} {base : Heap} {k : Nat} {f : Addr} {ps : List Str} {x qual : Str} {st : Stmt} (F : ∃ fd, FunD K x qual (defArgs st) (defBody st) (defScope st) [] [] f fd)
    (hb : ∀ (kV doc pm : Value) (an : Option Addr) (cdv ct : Value) (us : List Value), us.length = ps.length → bindArgs (PySem.W.fnOf x qual (defArgs st) (defBody st) (defScope st) .none kV doc pm an cdv ct) ⟨us, []⟩ = pure (ps.zip us)) :
    DefOk P w K mg base k f ps (fun _ _ _ _ => False) := by
  obtain ⟨fd, F⟩ := F
  exact ⟨⟨fd, ⟨fun _ _ _ _ h => h.elim, fun _ _ _ _ _ _ _ _ _ _ _ _ _ h => h.elim⟩, F.bindsN hb⟩, F.kp⟩
section
variable {P : Program} {w : World} {K : PySem.W.Frag} {mg : Str → Option Value} {base : Heap}
theorem none_Reader_one (T : Tx K mg) (k : Nat) : DefOk P w K mg base k (He.ma K (He.ga K "Reader") "one") ["self", "at", "byte"] (fun _ _ _ _ => False) := def_none (fn_Reader_one T) fun _ _ _ _ _ _ us hl => match us, hl with | [_, _, _], _ => rfl
theorem ok_Reader_one0 (T : Tx K mg) : DefOk P w K mg base 6 (He.ma K (He.ga K "Reader") "one") ["self", "at", "byte"] (spOne K 0) := by
  have M_Reader_one := meth1 (cl_Reader T) (me_Reader_one T) (none_Reader_one (P := P) (w := w) (base := base) T 5)
  refine def_ok (N := n_Reader_one) (fn_Reader_one T) sc_Reader_one (fun _ _ _ _ _ _ us hl => match us, hl with | [_, _, _], _ => rfl) (fun vs H Q E h => ?_) (fun cdv A outer s H vs Q E hr h => ?_)
  · obtain ⟨p, c, dx, rest, ps, ss, b, rfl, _⟩ := h
    rfl
  · obtain ⟨p, c, dx, rest, ps, ss, b, rfl, hp, hc, hg, hn, np, nc, hk, hb, hz, q, qf⟩ := h
    refine drv_go (σ0 := [_, _, _, _, _, _, _]) ?_
    refine drv_cons (ps_if (pt_cmpR op_lt (pv 1) pe_int (nomark _)) (pss_one (ps_ret (pe_lst (pa_cons (pv 2) pa_nil)))) pss_nil) ?_
    apply drv_cons (ps_try0 (tb := fun W => tAsg (tMu P w K mg base 5 "take" ["self", "byte"] (fun σ cls d H2 => W cls d σ H2) (tOp (rIxL K) (tFld K (tVar 0) "parts") (tVar 1)) (tCons (tVar 2) tNil)) (gName 3)) rfl rfl takes0 ?hh ?hb)
    case hh => exact (Clauses.named (i := 4) (ts := fun a cls d => tSeq (sFld K (tVar 0) (tTup (tCons (tC (.str "wrong")) (tCons (tVar 1) (tCons (tXf a cls d (He.ga K "Wrong") "place" (tVar 4)) tNil)))) "fault") (tRet (tLst tNil))) sc_Reader_one.nd rfl rfl ⟨rfl, by decide, .inl (g_Wrong T)⟩ (fun a oe cls d pn hz hf => (pss_cons (ps_fld (pv 0) (pe_tup (pa_cons pe_str (pa_cons (pv 1) (pa_cons (pe_xf (xf_Wrong T) (no_Wrong_place T) hz hf (pv 4)) pa_nil)))) rfl)
      (pss_one (ps_ret (pe_lst pa_nil))))) Clauses.nil)
    case hb => exact fun W pn xe tk po => (pss_one (ps_set (i := 3) sc_Reader_one.nd rfl (Or.inl rfl) (pe_mu 5 ["self", "byte"] (hr.mono (by first | decide | omega)) (fun σ => passAt tk σ) (pe_ix ix_list (pe_fld (pv 0) rfl) (pv 1) (fun _ _ => rfl)) (pa_cons (pv 2) pa_nil))))
    refine drv_end (pss_cons (ps_set (i := 5) sc_Reader_one.nd rfl (Or.inl rfl) (pe_lst pa_nil))
      (pss_cons (ps_for (passes_of rfl) rfl (pi_list (pv 3)) (pg_name (i := 6) sc_Reader_one.nd rfl (Or.inl rfl)) (pss_one (ps_if (pt_cmpR op_isNS (pe_fld (pv 0) rfl) pe_non (nomark _)) (pss_one (ps_expr (pe_bm PySem.F.plainAttrs_list PySem.F.slot_list_extend PySem.F.type_list_extend mt_extend (pv 5) (pa_cons (pe_mm M_Reader_one (hr.mono (by first | decide | omega)) (fun _ => passE) (pv 0) (pa_cons (pe_op op_sub (pv 1) pe_int) (pa_cons (pv 6) pa_nil))) pa_nil)))) pss_nil)))
      (pss_one (ps_ret (pv 5))))) ?_
    try dsimp only [cxOf]
    wtm_at "x"
    refine ite_d (fun _ => ?_) fun z => absurd (by decide) z
    wtm_at "x"
    intro r hr
    refine q rfl _ r ps ((Step.refl hg).new (RAt_parts K) hr) upd_same hr fun z => ?_
    obtain ⟨o, e⟩ := hg.trk (RAt_parts K) z
    rw [hr] at e
    cases e
end
end Flow

namespace Flow
open PySem PySem.Spec PyProof.Rows L2
section
variable {P : Program} {w : World} {K : PySem.W.Frag} {mg : Str → Option Value} {base : Heap}
theorem ok_Reader_one_more (T : Tx K mg) (n : Nat) (ih : DefOk P w K mg base (6 + n) (He.ma K (He.ga K "Reader") "one") ["self", "at", "byte"] (spOne K n)) : DefOk P w K mg base (6 + n + 1) (He.ma K (He.ga K "Reader") "one") ["self", "at", "byte"] (spOne K (n + 1)) := by
  have M_Reader_one := meth1 (cl_Reader T) (me_Reader_one T) ih
  refine def_ok (N := n_Reader_one) (fn_Reader_one T) sc_Reader_one (fun _ _ _ _ _ _ us hl => match us, hl with | [_, _, _], _ => rfl) (fun vs H Q E h => ?_) (fun cdv A outer s H vs Q E hr h => ?_)
  · obtain ⟨p, c, dx, rest, ps, ss, b, rfl, _⟩ := h
    rfl
  · obtain ⟨p, c, dx, rest, ps, ss, b, rfl, hp, hc, hg, hn, np, nc, hk, hb, hz, q, qf⟩ := h
    have PP := RAt_parts K
    cases ps with
    | nil => simp at hn
    | cons pl ps =>
    cases ss with
    | nil =>
      have := hg.len
      simp at this
    | cons s0 ss =>
    obtain ⟨p0, l0⟩ := pl
    obtain ⟨gt, np0, nl0, ne0⟩ := hg.tail
    have hw : RAt K H p0 l0 s0 := hg.at_ 0 p0 l0 s0 rfl rfl
    have hn' : ps.length = n := by simpa using hn
    have np' : p ≠ p0 ∧ p ≠ l0 ∧ p ∉ flat ps := by
      have : p ∉ p0 :: l0 :: flat ps := np
      simpa using this
    have nc' : c ≠ p0 ∧ c ≠ l0 ∧ c ∉ flat ps := by
      have : c ∉ p0 :: l0 :: flat ps := nc
      simpa using this
    have en : (((n + 1 : Nat) : Int) - 1) = (n : Int) := by omega
    rw [en]
    have hk0 : ROk s0 := hk s0 (List.mem_cons_self ..)
    have hkt : ROks ss := fun x hx => hk x (List.mem_cons_of_mem _ hx)
    refine drv_go (σ0 := [_, _, _, _, _, _, _]) ?_
    refine drv_cons (ps_if (pt_cmpR op_lt (pv 1) pe_int (nomark _)) (pss_one (ps_ret (pe_lst (pa_cons (pv 2) pa_nil)))) pss_nil) ?_
    apply drv_cons (ps_try0 (tb := fun W => tAsg (tMu P w K mg base 5 "take" ["self", "byte"] (fun σ cls d H2 => W cls d σ H2) (tOp (rIxL K) (tFld K (tVar 0) "parts") (tVar 1)) (tCons (tVar 2) tNil)) (gName 3)) rfl rfl takes0 ?hh ?hb)
    case hh => exact (Clauses.named (i := 4) (ts := fun a cls d => tSeq (sFld K (tVar 0) (tTup (tCons (tC (.str "wrong")) (tCons (tVar 1) (tCons (tXf a cls d (He.ga K "Wrong") "place" (tVar 4)) tNil)))) "fault") (tRet (tLst tNil))) sc_Reader_one.nd rfl rfl ⟨rfl, by decide, .inl (g_Wrong T)⟩ (fun a oe cls d pn hz hf => (pss_cons (ps_fld (pv 0) (pe_tup (pa_cons pe_str (pa_cons (pv 1) (pa_cons (pe_xf (xf_Wrong T) (no_Wrong_place T) hz hf (pv 4)) pa_nil)))) rfl)
      (pss_one (ps_ret (pe_lst pa_nil))))) Clauses.nil)
    case hb => exact fun W pn xe tk po => (pss_one (ps_set (i := 3) sc_Reader_one.nd rfl (Or.inl rfl) (pe_mu 5 ["self", "byte"] (hr.mono (by first | decide | omega)) (fun σ => passAt tk σ) (pe_ix ix_list (pe_fld (pv 0) rfl) (pv 1) (fun _ _ => rfl)) (pa_cons (pv 2) pa_nil))))
    refine drv_end (pss_cons (ps_set (i := 5) sc_Reader_one.nd rfl (Or.inl rfl) (pe_lst pa_nil))
      (pss_cons (ps_for (passes_of rfl) rfl (pi_list (pv 3)) (pg_name (i := 6) sc_Reader_one.nd rfl (Or.inl rfl)) (pss_one (ps_if (pt_cmpR op_isNS (pe_fld (pv 0) rfl) pe_non (nomark _)) (pss_one (ps_expr (pe_bm PySem.F.plainAttrs_list PySem.F.slot_list_extend PySem.F.type_list_extend mt_extend (pv 5) (pa_cons (pe_mm M_Reader_one (hr.mono (by first | decide | omega)) (fun _ => passE) (pv 0) (pa_cons (pe_op op_sub (pv 1) pe_int) (pa_cons (pv 6) pa_nil))) pa_nil)))) pss_nil)))
      (pss_one (ps_ret (pv 5))))) ?_
    try dsimp only [cxOf]
    wtm_at "x"
    refine ite_d (fun z => absurd z (by omega)) fun _ => ?_
    wtm_at "x"
    unfold tTryE
    dsimp only
    wtm_at "x"
    have hix : (pV ((p0, l0) :: ps).reverse ++ rest)[n]? = some (.ref p0) := by
      rw [List.reverse_cons]
      unfold pV
      rw [List.map_append, List.append_assoc, List.getElem?_append_right (by rw [List.length_map, List.length_reverse, hn']; exact Nat.le_refl _), List.length_map, List.length_reverse, hn', Nat.sub_self]
      rfl
    refine x_ixL (SqL.of hc) (at_of rfl hix) ?_
    wtm_at "x"
    refine x_rtake T hw hk0 hb (fun R k => by wtm_at "x"; exact k) (fun row s' er H1 l' r hw' hl' hr0 hr' ho => ?_) (fun place er H1 d ho hd hx => ?_)
    · have e1 : rone (n + 1) (s0 :: ss) b = ((rseq (rone n) ss row).1, s' :: (rseq (rone n) ss row).2.1, (rseq (rone n) ss row).2.2) := by rw [rone_more, er]
      rw [e1] at q qf hz
      obtain ⟨k1, by1⟩ := rtake_ok hk0 hb er
      have st1 : Step (RAt K) [] H ((p0, l0) :: ps) (s0 :: ss) H1 ((p0, l') :: ps) (s' :: ss) := Step.one (i := 0) PP hg rfl rfl hw' hl' ho
      obtain ⟨gt1, np1, nl1, ne1⟩ := st1.good.tail
      have hp1 := ho p _ hp (by simp [np'])
      have hc1 := ho c _ hc (by simp [nc'])
      have nrp : r ≠ p := (ne_of_none hp hr0).symm
      have nrf : r ∉ flat ps := fun z => by
        obtain ⟨o, e⟩ := gt.trk PP z
        rw [hr0] at e
        cases e
      wtm_at "x"
      intro f hf
      have nfp : f ≠ p := (ne_of_none hp1 hf).symm
      have nfr : f ≠ r := (ne_of_none hr' hf).symm
      have nff : f ∉ flat ps := fun z => by
        obtain ⟨o, e⟩ := gt1.trk PP z
        rw [hf] at e
        cases e
      wtm_at "x"
      have e2 : Ext H1 (upd H1 f (.lst [])) := Only'.put0 Only'.refl hf
      have hf2 : (upd H1 f (.lst [])) f = some (.lst []) := upd_same
      generalize (upd H1 f (.lst [])) = H2 at *
      have hr2 := e2 r _ hr' (by simp)
      have hp2 := e2 p _ hp1 (by simp)
      have hc2 := e2 c _ hc1 (by simp)
      have gt2 : Good (RAt K) H2 ps ss := gt1.ext PP e2 fun _ _ z => nomatch z
      refine x_rForL (SqL.of hr2) (fun i σ Hi => (∃ v6, σ = [some (.ref p), some (.int (n : Int)), some (.int b), some (.ref r), none, some (.ref f), v6]) ∧
          ((∃ (psi : List (Addr × Addr)) (ssi : List RSt) (outi : Row), Step (RAt K) [f] H2 ps ss Hi psi ssi ∧ Hi f = some (.lst (iV outi)) ∧ ROks ssi ∧ (outi ++ (rseq (rone n) ssi (row.drop i)).1, (rseq (rone n) ssi (row.drop i)).2) = rseq (rone n) ss row) ∨
            ∃ (flt : Fault) (t : Addr), (rseq (rone n) ss row).2.2 = some flt ∧ Hi p = some (.ins (He.ga K "Reader") dx [("parts", .ref c), ("fault", .ref t)]) ∧ Hi t = some (.tup (faultV flt)) ∧ H2 t = none ∧ Hi f = some (.lst (iV (rseq (rone n) ss row).1)) ∧ Only' (p :: f :: flat ps) H2 Hi))
        ⟨⟨_, rfl⟩, Or.inl ⟨ps, ss, [], Step.refl gt2, hf2, hkt, rfl⟩⟩ ?_ ?_ ?_
      · rintro i σ Hi _ ⟨_, h | ⟨flt, t, _, _, _, _, _, o⟩⟩
        · obtain ⟨psi, ssi, outi, st, _⟩ := h
          exact SqL.of (st.only r _ hr2 (by simp [nfr.symm, nrf]))
        · exact SqL.of (o r _ hr2 (by simp [nrp, nfr.symm, nrf]))
      · rintro i x σ Hi hi ⟨⟨v6, rfl⟩, h | ⟨flt, t, hflt, hpi, hti, ht0, hfi, o⟩⟩
        · obtain ⟨psi, ssi, outi, st, hfi, hki, eo⟩ := h
          obtain ⟨z, hz1, rfl⟩ := iV_get hi
          have hbz : By z := by1 z (List.mem_of_getElem? hz1)
          have hpi := st.only p _ hp2 (by simp [nfp.symm, np'])
          have hci := st.only c _ hc2 (by
            have : c ≠ f := ne_of_none hc1 hf
            simp [this, nc'])
          have nfi : f ∉ flat psi := st.out hf2 nff
          have npi : p ∉ flat psi := st.out hp2 np'.2.2
          have nci : c ∉ flat psi := st.out hc2 nc'.2.2
          rw [drop_more hz1, rseq_cons] at eo
          have hci' : Hi c = some (.lst (pV psi.reverse ++ (V.ref p0 :: rest))) := by
            rw [hci, pV_fst (ps := ps.reverse) (ps' := psi.reverse) (by rw [List.map_reverse, List.map_reverse, st.fst])]
            unfold pV
            simp
          have hlen : (rone n ssi z).1.length ≤ 16777216 ∧ outi.length + (rone n ssi z).1.length ≤ 16777216 := by
            have hz2 : (rseq (rone n) ss row).1.length ≤ 16777216 := hz
            rw [← eo] at hz2
            cases hro : rone n ssi z with
            | mk o1 r1 =>
              obtain ⟨ss1, fl⟩ := r1
              rw [hro] at hz2
              cases fl <;> simp only [List.length_append] at hz2 <;> exact ⟨by dsimp only; omega, by dsimp only; omega⟩
          wtm_at "x"
          refine ite_d (fun _ => ?_) fun hne => absurd rfl hne
          wtm_at "x"
          refine ⟨p, c, dx, _, psi, ssi, z, rfl, hpi, hci', st.good, by rw [st.len]; exact hn', npi, nci, hki, hbz, hlen.1, fun hno H3 r3 ps3 st3 hr3 hr30 nr3 => ?_, fun flt hflt H3 r3 t3 hp3 ht3 ht30 hr30 hr3 o3 => ?_⟩
          · have hf3 : H3 f = some (.lst (iV outi)) := st3.only f _ hfi (by simpa using nfi)
            refine x_nil ?_
            refine x_extend hf3 hr3 (by rw [iV_length, iV_length, sizeLine_eq]; exact hlen.2) ?_
            have st4 : Step (RAt K) [f] H2 ps ss H3 ps3 (rone n ssi z).2.1 := st.trans (st3.wide fun x hx => nomatch hx)
            refine ⟨⟨_, rfl⟩, Or.inl ⟨ps3, (rone n ssi z).2.1, outi ++ (rone n ssi z).1, st4.put PP (by simp) (st4.out hf2 nff), by rw [upd_same, iV_append], (rone_oks n ssi z hki hbz).1, ?_⟩⟩
            rw [← eo]
            generalize rone n ssi z = o at hno ⊢
            obtain ⟨o1, ss1, fl⟩ := o
            have hno' : fl = none := hno
            subst hno'
            dsimp only
            rw [List.append_assoc]
          · have nfp3 : f ∉ flat psi := nfi
            have hf3 : H3 f = some (.lst (iV outi)) := o3 f _ hfi (by simp [nfp, nfi])
            refine x_nil ?_
            refine x_extend hf3 hr3 (by rw [iV_length, iV_length, sizeLine_eq]; exact hlen.2) ?_
            have et : t3 ≠ f := (ne_of_none hfi ht30).symm
            have eo3 : (rseq (rone n) ss row).2.2 = some flt ∧ (rseq (rone n) ss row).1 = outi ++ (rone n ssi z).1 := by
              rw [← eo]
              generalize rone n ssi z = o at hflt ⊢
              obtain ⟨o1, ss1, fl⟩ := o
              have hfl' : fl = some flt := hflt
              subst hfl'
              exact ⟨rfl, rfl⟩
            refine ⟨⟨_, rfl⟩, Or.inr ⟨flt, t3, eo3.1, upd_get nfp.symm hp3, upd_get et ht3, st.only.free ht30, by rw [upd_same, eo3.2, iV_append], ⟨fun y u hy hn2 => ?_, fun y u hy => ?_⟩⟩⟩
            · have hn3 : y ≠ p ∧ y ≠ f ∧ y ∉ flat ps := by simpa using hn2
              have y1 := st.only y u hy (by simp [hn3])
              refine upd_get hn3.2.1 (o3 y u y1 ?_)
              have : y ∉ flat psi := st.out hy hn3.2.2
              simp [hn3, this]
            · obtain ⟨u1, y1⟩ := st.only.more y u hy
              obtain ⟨u2, y2⟩ := o3.more y u1 y1
              exact upd_more y2
        · wtm_at "x"
          exact ⟨⟨_, rfl⟩, Or.inr ⟨flt, t, hflt, hpi, hti, ht0, hfi, o⟩⟩
      · rintro σ Hi ⟨⟨v6, rfl⟩, h | ⟨flt, t, hflt, hpi, hti, ht0, hfi, o⟩⟩
        · obtain ⟨psi, ssi, outi, st, hfi, hki, eo⟩ := h
          rw [iV_length, List.drop_length] at eo
          have eo2 : (outi, ssi, none) = rseq (rone n) ss row := by
            rw [← eo]
            show _ = (outi ++ [], _, _)
            rw [List.append_nil]
          wtm_at "x"
          rw [← eo2] at q
          have stp : Step (RAt K) [] H1 ps ss Hi psi ssi := st.pre e2 fun x hx => Or.inr (by rw [List.mem_singleton.mp hx]; exact hf)
          refine q rfl Hi f ((p0, l') :: psi) (st1.trans (Step.cons PP st1.good stp (fun z => nomatch z) (fun z => nomatch z))) hfi (ho.free hf) ?_
          obtain ⟨⟨o1, t1⟩, ⟨o2, t2⟩⟩ := PP.trk _ _ _ _ hw'
          have m1 : f ≠ p0 := (ne_of_none t1 hf).symm
          have m2 : f ≠ l' := (ne_of_none t2 hf).symm
          show f ∉ p0 :: l' :: flat psi
          simp [m1, m2, st.out hf2 nff]
        · wtm_at "x"
          refine qf flt hflt Hi f t hpi hti (ho.free (e2.free ht0)) (ho.free hf) hfi ⟨fun y u hy hn2 => ?_, fun y u hy => ?_⟩
          · have hn3 : y ≠ p ∧ y ≠ p0 ∧ y ≠ l0 ∧ y ∉ flat ps := by
              have : y ∉ p :: p0 :: l0 :: flat ps := hn2
              simpa using this
            have y1 := ho y u hy (by simp [hn3])
            exact o y u (e2 y u y1 (by simp)) (by simp [hn3, ne_of_none y1 hf])
          · obtain ⟨u1, y1⟩ := ho.more y u hy
            obtain ⟨u2, y2⟩ := e2.more y u1 y1
            exact o.more y u2 y2
    · have e1 : rone (n + 1) (s0 :: ss) b = ([], s0 :: ss, some (.wrong (n : Int) place)) := by rw [rone_more, er]
      have hp1 := ho p _ hp (by simp [np'])
      refine ⟨true, xm_Wrong_Wrong T, fun _ a ha => ?_, fun z => nomatch z⟩
      wtm_at "x"
      refine ⟨_, rfl, rfl, rfl, d, _, _, rfl, hx, rfl, ?_⟩
      wtm_at "x"
      intro t ht
      wtm_at "x"
      intro r hr
      obtain ⟨n1, hr⟩ := upd_none hr
      obtain ⟨n2, hr1⟩ := upd_none hr
      rw [e1] at qf
      have nt : t ≠ p := (ne_of_none hp1 ht).symm
      refine qf (.wrong (n : Int) place) rfl _ r t (by wtm_at "h") (upd_get (Ne.symm n2) (upd_get nt upd_same)) (ho.free ht) (ho.free hr1) upd_same ?_
      exact (((ho.mono (by simp [flat])).put0 (ho.free ht)).put (by simp)).put0 (ho.free hr1)
theorem ok_Reader_one (T : Tx K mg) : ∀ n : Nat, DefOk P w K mg base (6 + n) (He.ma K (He.ga K "Reader") "one") ["self", "at", "byte"] (spOne K n)
  | 0 => ok_Reader_one0 T
  | n + 1 => ok_Reader_one_more T n (ok_Reader_one T n)
end
end Flow

namespace Flow
open PySem PySem.Spec PyProof.Rows L2
theorem flat_rev : ∀ {ps : List (Addr × Addr)} {x : Addr}, x ∈ flat ps.reverse ↔ x ∈ flat ps
  | [], x => Iff.rfl
  | y :: r, x => by
    rw [List.reverse_cons, flat_app, List.mem_append, flat_rev (ps := r)]
    show x ∈ flat r ∨ x ∈ [y.1, y.2] ↔ x ∈ y.1 :: y.2 :: flat r
    simp only [List.mem_cons, List.not_mem_nil, or_false]
    constructor
    · rintro (h | h | h)
      · exact Or.inr (Or.inr h)
      · exact Or.inl h
      · exact Or.inr (Or.inl h)
    · rintro (h | h | h)
      · exact Or.inr (Or.inl h)
      · exact Or.inr (Or.inr h)
      · exact Or.inl h
theorem flat_rev_nd : ∀ {ps : List (Addr × Addr)}, (flat ps).Nodup → (flat ps.reverse).Nodup
  | [], _ => List.nodup_nil
  | y :: r, h => by
    have h0 : (y.1 :: y.2 :: flat r).Nodup := h
    have h1 := List.nodup_cons.mp h0
    have h2 := List.nodup_cons.mp h1.2
    rw [List.reverse_cons, flat_app]
    refine List.nodup_append.mpr ⟨flat_rev_nd h2.2, ?_, fun a ha b hb e => ?_⟩
    · show [y.1, y.2].Nodup
      simp only [List.nodup_cons, List.not_mem_nil, not_false_eq_true, List.nodup_nil, and_true, List.mem_singleton]
      exact fun z => h1.1 (by rw [z]; exact List.mem_cons_self ..)
    · subst e
      have ha' := flat_rev.mp ha
      have hb' : a ∈ [y.1, y.2] := hb
      rcases List.mem_cons.mp hb' with z | z
      · exact h1.1 (List.mem_cons_of_mem _ (z ▸ ha'))
      · exact h2.1 ((List.mem_singleton.mp z) ▸ ha')
theorem Good.rev {S : Type} {A : Hp → Addr → Addr → S → Prop} {H : Hp} {ps : List (Addr × Addr)} {ss : List S} (g : Good A H ps ss) : Good A H ps.reverse ss.reverse := by
  refine ⟨by rw [List.length_reverse, List.length_reverse, g.len], fun i p l s h1 h2 => ?_, flat_rev_nd g.nd⟩
  have hi : i < ps.length := by
    have := (List.getElem?_eq_some_iff.mp h1).1
    rwa [List.length_reverse] at this
  rw [List.getElem?_reverse hi] at h1
  rw [List.getElem?_reverse (by rw [← g.len]; exact hi), ← g.len] at h2
  exact g.at_ _ p l s h1 h2
/-- a Reader at p, no fault so far; its parts, the outermost first -/
structure ReaderAt (K : PySem.W.Frag) (H : Hp) (p c dx : Addr) (ps : List (Addr × Addr)) (ss : List RSt) : Prop where
  ob : H p = some (.ins (He.ga K "Reader") dx [("parts", .ref c), ("fault", .non)])
  cl : H c = some (.lst (pV ps.reverse))
  good : Good (RAt K) H ps ss
  np : p ∉ flat ps
  nc : c ∉ flat ps
  ok : ROks ss
  few : ps.length ≤ 8
/-- a Reader with a fault, told at t -/
structure ReaderFl (K : PySem.W.Frag) (H : Hp) (p c dx t : Addr) (flt : Fault) : Prop where
  ob : H p = some (.ins (He.ga K "Reader") dx [("parts", .ref c), ("fault", .ref t)])
  fl : H t = some (.tup (faultV flt))
def spReaderInit (K : PySem.W.Frag) : Sp := fun vs H Q E => ∃ (p dx a : Addr) (ls : List (Str × Row)), vs = [.ref p, .ref a] ∧ H p = some (.ins (He.ga K "Reader") dx []) ∧ H dx = some (.own p) ∧ Handed K H a ls ∧
  (∀ lays : List Lay, ls = lays.map rawOf → (∀ ly, ly ∈ lays → ly.Ok) → lays.length ≤ 8 → ∀ (H' : Hp) (c : Addr) (ps : List (Addr × Addr)), ReaderAt K H' p c dx ps (lays.reverse.map newR) → H c = none → (∀ x, x ∈ flat ps → H x = none) → Only' [p] H H' → Q .non H') ∧
  (goodAll ls = false → ∀ H', Ext H H' → E (.ref (He.ga K "BadLayer")) none H')
section
variable {P : Program} {w : World} {K : PySem.W.Frag} {mg : Str → Option Value} {base : Heap}
theorem ok_Reader_init (T : Tx K mg) : DefOk P w K mg base 4 (He.ma K (He.ga K "Reader") "__init__") ["self", "layers"] (spReaderInit K) := by
  have D_look_layers := ok_look_layers (P := P) (w := w) (base := base) T
  have D_reader_of := ok_reader_of (P := P) (w := w) (base := base) T
  refine def_ok (N := n_Reader_init) (fn_Reader_init T) sc_Reader_init (fun _ _ _ _ _ _ us hl => match us, hl with | [_, _], _ => rfl) (fun vs H Q E h => ?_) (fun cdv A outer s H vs Q E hr h => ?_)
  · obtain ⟨p, dx, a, ls, rfl, _⟩ := h
    rfl
  · obtain ⟨p, dx, a, ls, rfl, hp, hd, ⟨ts, ha, hra⟩, q, qb⟩ := h
    have PP := RAt_parts K
    refine ⟨_, [_, _, _], (pss_cons (ps_expr (pe_fn D_look_layers (g_look_layers T) (hr.mono (by first | decide | omega)) (fun σ => passAt (takes_of rfl rfl rfl rfl) σ) (pa_cons (pv 1) pa_nil)))
      (pss_cons (ps_fld (pv 0) (pe_lc (own := [("layer", 2)]) (g := gName 2) (tt := tYes) rfl sc_Reader_init.nd (pi_list (pv 1)) (blkOk_by (own := [("layer", 2)]) (N := n_Reader_init) (sc := defScope s_Reader_init) (by decide +kernel)) (fun _ _ _ _ _ => pg_name (i := 2) sc_Reader_init.nd rfl (Or.inl rfl)) (fun _ _ _ _ _ => pts_nil) (fun _ _ _ _ _ => (pe_fn D_reader_of (g_reader_of T) (hr.mono (by first | decide | omega)) (fun _ => passE) (pa_cons (pv 2) pa_nil)))) rfl)
      (pss_one (ps_fld (pv 0) pe_non rfl)))), rfl, ?_⟩
    try dsimp only [cxOf]
    wtm_at "x"
    refine ⟨a, ts, ls, rfl, ha, hra, fun hg H1 e1 => ?_, qb⟩
    unfold goodAll at hg
    rw [Bool.and_eq_true, decide_eq_true_eq] at hg
    obtain ⟨h8, hall⟩ := hg
    obtain ⟨lays, rfl, oks⟩ := good_all_lays hall
    rw [List.length_map] at h8
    have hra1 := hra.ext e1
    have hlen : ts.length = lays.length := by rw [hra.len, List.length_map]
    wtm_at "x"
    refine ⟨a, rfl, ⟨_, SqL.ext e1 ha⟩, fun D hD => lc_list (K := K) (a := a) (xs := ts.map V.ref) (fun i H' => ∃ ps : List (Addr × Addr), ps.length = i ∧ Good (RAt K) H' ps ((lays.take i).map newR) ∧ (∀ x, x ∈ flat ps → H x = none) ∧ H' D = some (.lst (pV ps)) ∧ D ∉ flat ps ∧ Ext H1 H')
      ⟨[], rfl, ⟨rfl, fun i p l s h => by simp at h, List.nodup_nil⟩, (fun _ h => nomatch h), upd_same, (fun h => nomatch h), Only'.put0 Only'.refl hD⟩ (fun i H' _ ⟨ps, _, _, _, _, _, e⟩ => SqL.ext (e1.trans e) ha) ?_ ?_⟩
    · rintro i x H' hi ⟨ps, hl, hg, hf, hDl, nD, e⟩
      obtain ⟨t, ht, rfl⟩ : ∃ t, ts[i]? = some t ∧ x = V.ref t := by
        rw [List.getElem?_map] at hi
        cases z : ts[i]? with
        | none => rw [z] at hi; cases hi
        | some t => rw [z] at hi; exact ⟨t, rfl, (Option.some.inj hi).symm⟩
      have hilt : i < lays.length := by rw [← hlen]; exact (List.getElem?_eq_some_iff.mp ht).1
      have hly := List.getElem?_eq_getElem hilt
      refine ⟨rfl, ?_⟩
      unfold tYes
      dsimp only
      wtm_at "x"
      refine ⟨t, lays[i], rfl, ?_, oks _ (List.getElem_mem hilt), fun H2 p2 l2 hw n1 n2 ne e2 => ?_⟩
      · exact SqT.ext e (hra1.at_ i t _ _ ht (by rw [List.getElem?_map, hly]; rfl))
      · have hg2 : Good (RAt K) H2 ps ((lays.take i).map newR) := hg.ext PP e2 fun _ _ z => nomatch z
        have np : p2 ∉ flat ps := fun z => by
          obtain ⟨o, eo⟩ := hg.trk PP z
          rw [n1] at eo
          cases eo
        have nl : l2 ∉ flat ps := fun z => by
          obtain ⟨o, eo⟩ := hg.trk PP z
          rw [n2] at eo
          cases eo
        have hD2 := e2 D _ hDl (by simp)
        have nDp : D ≠ p2 := ne_of_none hDl n1
        have nDl : D ≠ l2 := ne_of_none hDl n2
        have hs : (lays.take (i + 1)).map newR = (lays.take i).map newR ++ [newR lays[i]] := by rw [take_more hly, List.map_append]; rfl
        have nD2 : D ∉ flat (ps ++ [(p2, l2)]) := by
          rw [flat_app]
          intro z
          rcases List.mem_append.mp z with z | z
          · exact nD z
          · have z' : D ∈ [p2, l2] := z
            simp [nDp, nDl] at z'
        refine ⟨pV ps, hD2, by rw [pV_len, hl, sizeLine_eq]; omega, ps ++ [(p2, l2)], by rw [List.length_append, hl]; rfl, ?_, fun x hx => ?_, ?_, nD2, ?_⟩
        · rw [hs]
          exact (hg2.snoc hw np nl ne).ext PP (Z := [D]) (Only'.put Only'.refl (by simp)) fun x hx z => nD2 (by rw [← List.mem_singleton.mp z]; exact hx)
        · rw [flat_app] at hx
          rcases List.mem_append.mp hx with z | z
          · exact hf x z
          · have z' : x ∈ [p2, l2] := z
            rcases List.mem_cons.mp z' with z' | z'
            · rw [z']; exact (e1.trans e).free n1
            · rw [List.mem_singleton.mp z']; exact (e1.trans e).free n2
        · rw [upd_same]
          unfold pV
          rw [List.map_append]
          rfl
        · exact (e.trans e2).put0 hD
    · rintro H' ⟨ps, hl, hg, hf, hDl, nD, e⟩
      rw [List.length_map, hlen] at hl hg
      rw [List.take_length] at hg
      have hp' : H' p = some (.ins (He.ga K "Reader") dx []) := (e1.trans e) p _ hp (by simp)
      have npf : p ∉ flat ps := fun z => by
        have := hf p z
        rw [hp] at this
        cases this
      have nDp : D ≠ p := fun z => by
        rw [z] at hD
        rw [e1 p _ hp (by simp)] at hD
        cases hD
      wtm_at "x"
      have hob : (upd (upd H' p (.ins (He.ga K "Reader") dx [("parts", .ref D)])) p (.ins (He.ga K "Reader") dx [("parts", .ref D), ("fault", .non)])) p = some (.ins (He.ga K "Reader") dx [("parts", .ref D), ("fault", .non)]) := upd_same
      refine q lays rfl oks h8 _ D ps.reverse ⟨hob, ?_, ?_, fun z => npf (flat_rev.mp z), fun z => nD (flat_rev.mp z), fun s hs => ?_, by rw [List.length_reverse]; omega⟩ (e1.free hD) (fun x hx => hf x (flat_rev.mp hx)) ?_
      · rw [List.reverse_reverse]
        exact upd_get nDp (upd_get nDp hDl)
      · rw [List.map_reverse]
        refine Good.rev (hg.ext PP (Z := [p]) ((Only'.refl.put (by simp)).put (by simp)) fun x hx z => npf (by rw [← List.mem_singleton.mp z]; exact hx))
      · obtain ⟨ly, hly, rfl⟩ := List.mem_map.mp hs
        exact newR_ok (oks ly (List.mem_reverse.mp hly))
      · exact (((e1.trans e).mono fun _ h => nomatch h).put (by simp)).put (by simp)
end
end Flow

namespace Flow
open PySem PySem.Spec PyProof.Rows L2
/-- what a Reader tells: the bytes at r, the fault's value fv, in a tuple at tp -/
def spReaderTake (K : PySem.W.Frag) : Sp := fun vs H Q _ => ∃ (p c dx rw_ : Addr) (ps : List (Addr × Addr)) (ss : List RSt) (row : Row), vs = [.ref p, .ref rw_] ∧ ReaderAt K H p c dx ps ss ∧ SqL K H rw_ (iV row) ∧ rw_ ∉ flat ps ∧ Bys row ∧ (rrow ss row).1.length ≤ 16777216 ∧
  ((rrow ss row).2.2 = none → ∀ (H' : Hp) (tp r : Addr) (ps' : List (Addr × Addr)), Step (RAt K) [] H ps ss H' ps' (rrow ss row).2.1 → ReaderAt K H' p c dx ps' (rrow ss row).2.1 → H' tp = some (.tup [.ref r, .non]) → H' r = some (.lst (iV (rrow ss row).1)) → H tp = none → H r = none → r ∉ flat ps' → tp ∉ flat ps' → Q (.ref tp) H') ∧
  (∀ flt, (rrow ss row).2.2 = some flt → ∀ (H' : Hp) (tp r t : Addr), ReaderFl K H' p c dx t flt → H' tp = some (.tup [.ref r, .ref t]) → H' r = some (.lst (iV (rrow ss row).1)) → H tp = none → H r = none → H t = none → Only' (p :: flat ps) H H' → Q (.ref tp) H')
/-- .. behind a fault -/
def spReaderTakeF (K : PySem.W.Frag) : Sp := fun vs H Q _ => ∃ (p c dx rw_ t : Addr) (flt : Fault) (row : Row), vs = [.ref p, .ref rw_] ∧ ReaderFl K H p c dx t flt ∧ SqL K H rw_ (iV row) ∧
  ∀ (H' : Hp) (tp r : Addr), Ext H H' → H' tp = some (.tup [.ref r, .ref t]) → H' r = some (.lst []) → H tp = none → H r = none → Q (.ref tp) H'
theorem SqL.lives {K : PySem.W.Frag} {H H' : Hp} {a : Addr} {xs : List V} (h : SqL K H a xs) (g : ∀ o, (o = HO.lst xs ∨ ∃ ob, o = HO.frz ob (.lst xs)) → H a = some o → H' a = some o) : SqL K H' a xs := by
  rcases h with (h | ⟨o, h⟩) | h
  · exact .inl (.inl (g _ (Or.inl rfl) h))
  · exact .inl (.inr ⟨o, g _ (Or.inr ⟨o, rfl⟩) h⟩)
  · exact .inr h
/-- .. one or the other -/
def spReaderTakeB (K : PySem.W.Frag) : Sp := fun vs H Q E => spReaderTakeF K vs H Q E ∨ spReaderTake K vs H Q E
section
variable {P : Program} {w : World} {K : PySem.W.Frag} {mg : Str → Option Value} {base : Heap}
theorem ok_Reader_take (T : Tx K mg) : DefOk P w K mg base 15 (He.ma K (He.ga K "Reader") "take") ["self", "row"] (spReaderTakeB K) := by
  refine def_ok (N := n_Reader_take) (fn_Reader_take T) sc_Reader_take (fun _ _ _ _ _ _ us hl => match us, hl with | [_, _], _ => rfl) (fun vs H Q E h => ?_) (fun cdv A outer s H vs Q E hr h => ?_)
  · rcases h with ⟨p, c, dx, rw_, t, flt, row, rfl, _⟩ | ⟨p, c, dx, rw_, ps, ss, row, rfl, _⟩ <;> rfl
  · rcases h with h | h
    · obtain ⟨p, c, dx, rw_, t, flt, row, rfl, hR, hrw, q⟩ := h
      have M_Reader_one := meth1 (cl_Reader T) (me_Reader_one T) (none_Reader_one (P := P) (w := w) (base := base) T 14)
      obtain ⟨hp, ht⟩ := hR
      refine ⟨_, [_, _, _, _], (pss_cons (ps_set (i := 2) sc_Reader_take.nd rfl (Or.inl rfl) (pe_lst pa_nil))
      (pss_cons (ps_for (passes_of rfl) rfl (pi_list (pv 1)) (pg_name (i := 3) sc_Reader_take.nd rfl (Or.inl rfl)) (pss_one (ps_if (pt_cmpR op_isNS (pe_fld (pv 0) rfl) pe_non (nomark _)) (pss_one (ps_expr (pe_bm PySem.F.plainAttrs_list PySem.F.slot_list_extend PySem.F.type_list_extend mt_extend (pv 2) (pa_cons (pe_mm M_Reader_one (hr.mono (by first | decide | omega)) (fun _ => passE) (pv 0) (pa_cons (pe_op op_sub (pe_callB call_lenS rfl (f_len T) (by decide +kernel) (pa_cons (pe_fld (pv 0) rfl) pa_nil)) pe_int) (pa_cons (pv 3) pa_nil))) pa_nil)))) pss_nil)))
      (pss_one (ps_ret (pe_tup (pa_cons (pv 2) (pa_cons (pe_fld (pv 0) rfl) pa_nil))))))), rfl, ?_⟩
      try dsimp only [cxOf]
      wtm_at "x"
      intro f hf
      wtm_at "x"
      have e1 : Ext H (upd H f (.lst [])) := Only'.put0 Only'.refl hf
      have hf1 : (upd H f (.lst [])) f = some (.lst []) := upd_same
      generalize (upd H f (.lst [])) = H1 at *
      have hrw1 := SqL.ext e1 hrw
      have hp1 := e1 p _ hp (by simp)
      refine x_rForL hrw1 (fun i σ Hi => (∃ v3, σ = [some (.ref p), some (.ref rw_), some (.ref f), v3]) ∧ Hi = H1) ⟨⟨_, rfl⟩, rfl⟩ (fun i σ Hi _ h => by rw [h.2]; exact hrw1) ?_ ?_
      · rintro i x σ Hi hi ⟨⟨v3, rfl⟩, rfl⟩
        wtm_at "x"
        exact ⟨⟨_, rfl⟩, rfl⟩
      · rintro σ Hi ⟨⟨v3, rfl⟩, rfl⟩
        wtm_at "x"
        intro tp htp
        exact q _ tp f (e1.new htp) upd_same (keep hf1 htp) (e1.free htp) hf
    · obtain ⟨p, c, dx, rw_, ps, ss, row, rfl, hR, hrw, nrw, hby, hz, q, qf⟩ := h
      have M_Reader_one := meth1 (cl_Reader T) (me_Reader_one T) ((ok_Reader_one (P := P) (w := w) (base := base) T ps.length).mono (k := 14) (by have := hR.few; omega))
      have PP := RAt_parts K
      obtain ⟨hp, hc, hg, np, nc, hk, few⟩ := hR
      have hlen : ps.length = ss.length := hg.len
      refine ⟨_, [_, _, _, _], (pss_cons (ps_set (i := 2) sc_Reader_take.nd rfl (Or.inl rfl) (pe_lst pa_nil))
      (pss_cons (ps_for (passes_of rfl) rfl (pi_list (pv 1)) (pg_name (i := 3) sc_Reader_take.nd rfl (Or.inl rfl)) (pss_one (ps_if (pt_cmpR op_isNS (pe_fld (pv 0) rfl) pe_non (nomark _)) (pss_one (ps_expr (pe_bm PySem.F.plainAttrs_list PySem.F.slot_list_extend PySem.F.type_list_extend mt_extend (pv 2) (pa_cons (pe_mm M_Reader_one (hr.mono (by first | decide | omega)) (fun _ => passE) (pv 0) (pa_cons (pe_op op_sub (pe_callB call_lenS rfl (f_len T) (by decide +kernel) (pa_cons (pe_fld (pv 0) rfl) pa_nil)) pe_int) (pa_cons (pv 3) pa_nil))) pa_nil)))) pss_nil)))
      (pss_one (ps_ret (pe_tup (pa_cons (pv 2) (pa_cons (pe_fld (pv 0) rfl) pa_nil))))))), rfl, ?_⟩
      try dsimp only [cxOf]
      wtm_at "x"
      intro f hf
      wtm_at "x"
      have e2 : Ext H (upd H f (.lst [])) := Only'.put0 Only'.refl hf
      have hf2 : (upd H f (.lst [])) f = some (.lst []) := upd_same
      generalize (upd H f (.lst [])) = H2 at *
      have hrw2 := SqL.ext e2 hrw
      have hp2 := e2 p _ hp (by simp)
      have hc2 := e2 c _ hc (by simp)
      have gt2 : Good (RAt K) H2 ps ss := hg.ext PP e2 fun _ _ z => nomatch z
      have nfp : f ≠ p := (ne_of_none hp hf).symm
      have nff : f ∉ flat ps := fun z => by
        obtain ⟨o, e⟩ := hg.trk PP z
        rw [hf] at e
        cases e
      have nwf : ∀ o, (o = HO.lst (iV row) ∨ ∃ ob, o = HO.frz ob (.lst (iV row))) → H2 rw_ = some o → rw_ ≠ p := fun o ho h z => by
        rw [z, hp2] at h
        have h' := Option.some.inj h
        rcases ho with h2 | ⟨ob, h2⟩ <;> (rw [h2] at h'; cases h')
      have er : rrow ss row = rseq (rone ps.length) ss row := by unfold rrow; rw [hlen]
      rw [er] at q qf hz
      refine x_rForL hrw2 (fun i σ Hi => (∃ v3, σ = [some (.ref p), some (.ref rw_), some (.ref f), v3]) ∧
          ((∃ (psi : List (Addr × Addr)) (ssi : List RSt) (outi : Row), Step (RAt K) [f] H2 ps ss Hi psi ssi ∧ Hi f = some (.lst (iV outi)) ∧ ROks ssi ∧ (outi ++ (rseq (rone ps.length) ssi (row.drop i)).1, (rseq (rone ps.length) ssi (row.drop i)).2) = rseq (rone ps.length) ss row) ∨
            ∃ (flt : Fault) (t : Addr), (rseq (rone ps.length) ss row).2.2 = some flt ∧ Hi p = some (.ins (He.ga K "Reader") dx [("parts", .ref c), ("fault", .ref t)]) ∧ Hi t = some (.tup (faultV flt)) ∧ H2 t = none ∧ Hi f = some (.lst (iV (rseq (rone ps.length) ss row).1)) ∧ Only' (p :: f :: flat ps) H2 Hi))
        ⟨⟨_, rfl⟩, Or.inl ⟨ps, ss, [], Step.refl gt2, hf2, hk, rfl⟩⟩ ?_ ?_ ?_
      · rintro i σ Hi _ ⟨_, h | ⟨flt, t, _, _, _, _, _, o⟩⟩
        · obtain ⟨psi, ssi, outi, st, _⟩ := h
          exact SqL.lives hrw fun o1 ho1 h1 => st.only rw_ o1 (e2 rw_ _ h1 (by simp)) (by simp [ne_of_none h1 hf, nrw])
        · exact SqL.lives hrw fun o1 ho1 h1 => o rw_ o1 (e2 rw_ _ h1 (by simp)) (by simp [nwf o1 ho1 (e2 rw_ _ h1 (by simp)), ne_of_none h1 hf, nrw])
      · rintro i x σ Hi hi ⟨⟨v6, rfl⟩, h | ⟨flt, t, hflt, hpi, hti, ht0, hfi, o⟩⟩
        · obtain ⟨psi, ssi, outi, st, hfi, hki, eo⟩ := h
          obtain ⟨z, hz1, rfl⟩ := iV_get hi
          have hbz : By z := hby z (List.mem_of_getElem? hz1)
          have hpi := st.only p _ hp2 (by simp [nfp.symm, np])
          have hci := st.only c _ hc2 (by
            have : c ≠ f := ne_of_none hc hf
            simp [this, nc])
          have nfi : f ∉ flat psi := st.out hf2 nff
          have npi : p ∉ flat psi := st.out hp2 np
          have nci : c ∉ flat psi := st.out hc2 nc
          rw [drop_more hz1, rseq_cons] at eo
          have hci' : Hi c = some (.lst (pV psi.reverse ++ [])) := by
            rw [hci, pV_fst (ps := ps.reverse) (ps' := psi.reverse) (by rw [List.map_reverse, List.map_reverse, st.fst]), List.append_nil]
          have hln : (rone ps.length ssi z).1.length ≤ 16777216 ∧ outi.length + (rone ps.length ssi z).1.length ≤ 16777216 := by
            have hz2 : (rseq (rone ps.length) ss row).1.length ≤ 16777216 := hz
            rw [← eo] at hz2
            cases hro : rone ps.length ssi z with
            | mk o1 r1 =>
              obtain ⟨ss1, fl⟩ := r1
              rw [hro] at hz2
              cases fl <;> simp only [List.length_append] at hz2 <;> exact ⟨by dsimp only; omega, by dsimp only; omega⟩
          wtm_at "x"
          refine ite_d (fun _ => ?_) fun hne => absurd rfl hne
          wtm_at "x"
          have epl : (pV psi.reverse ++ []).length = ps.length := by rw [List.append_nil, pV_len, List.length_reverse, st.len]
          rw [epl]
          refine ⟨p, c, dx, [], psi, ssi, z, rfl, hpi, hci', st.good, st.len, npi, nci, hki, hbz, hln.1, fun hno H3 r3 ps3 st3 hr3 hr30 nr3 => ?_, fun flt hflt H3 r3 t3 hp3 ht3 ht30 hr30 hr3 o3 => ?_⟩
          · have hf3 : H3 f = some (.lst (iV outi)) := st3.only f _ hfi (by simpa using nfi)
            refine x_nil ?_
            refine x_extend hf3 hr3 (by rw [iV_length, iV_length, sizeLine_eq]; exact hln.2) ?_
            have st4 : Step (RAt K) [f] H2 ps ss H3 ps3 (rone ps.length ssi z).2.1 := st.trans (st3.wide fun x hx => nomatch hx)
            refine ⟨⟨_, rfl⟩, Or.inl ⟨ps3, (rone ps.length ssi z).2.1, outi ++ (rone ps.length ssi z).1, st4.put PP (by simp) (st4.out hf2 nff), by rw [upd_same, iV_append], (rone_oks ps.length ssi z hki hbz).1, ?_⟩⟩
            rw [← eo]
            generalize rone ps.length ssi z = o at hno ⊢
            obtain ⟨o1, ss1, fl⟩ := o
            have hno' : fl = none := hno
            subst hno'
            dsimp only
            rw [List.append_assoc]
          · have hf3 : H3 f = some (.lst (iV outi)) := o3 f _ hfi (by simp [nfp, nfi])
            refine x_nil ?_
            refine x_extend hf3 hr3 (by rw [iV_length, iV_length, sizeLine_eq]; exact hln.2) ?_
            have et : t3 ≠ f := (ne_of_none hfi ht30).symm
            have eo3 : (rseq (rone ps.length) ss row).2.2 = some flt ∧ (rseq (rone ps.length) ss row).1 = outi ++ (rone ps.length ssi z).1 := by
              rw [← eo]
              generalize rone ps.length ssi z = o at hflt ⊢
              obtain ⟨o1, ss1, fl⟩ := o
              have hfl' : fl = some flt := hflt
              subst hfl'
              exact ⟨rfl, rfl⟩
            refine ⟨⟨_, rfl⟩, Or.inr ⟨flt, t3, eo3.1, upd_get nfp.symm hp3, upd_get et ht3, st.only.free ht30, by rw [upd_same, eo3.2, iV_append], ⟨fun y u hy hn2 => ?_, fun y u hy => ?_⟩⟩⟩
            · have hn3 : y ≠ p ∧ y ≠ f ∧ y ∉ flat ps := by simpa using hn2
              have y1 := st.only y u hy (by simp [hn3])
              refine upd_get hn3.2.1 (o3 y u y1 ?_)
              have : y ∉ flat psi := st.out hy hn3.2.2
              simp [hn3, this]
            · obtain ⟨u1, y1⟩ := st.only.more y u hy
              obtain ⟨u2, y2⟩ := o3.more y u1 y1
              exact upd_more y2
        · wtm_at "x"
          exact ⟨⟨_, rfl⟩, Or.inr ⟨flt, t, hflt, hpi, hti, ht0, hfi, o⟩⟩
      · rintro σ Hi ⟨⟨v6, rfl⟩, h | ⟨flt, t, hflt, hpi, hti, ht0, hfi, o⟩⟩
        · obtain ⟨psi, ssi, outi, st, hfi, hki, eo⟩ := h
          rw [iV_length, List.drop_length] at eo
          have eo2 : (outi, ssi, none) = rseq (rone ps.length) ss row := by
            rw [← eo]
            show _ = (outi ++ [], _, _)
            rw [List.append_nil]
          have hpi := st.only p _ hp2 (by simp [nfp.symm, np])
          have hci := st.only c _ hc2 (by
            have : c ≠ f := ne_of_none hc hf
            simp [this, nc])
          wtm_at "x"
          intro tp htp
          rw [← eo2] at q
          have stp : Step (RAt K) [] H ps ss Hi psi ssi := st.pre e2 fun x hx => Or.inr (by rw [List.mem_singleton.mp hx]; exact hf)
          have stq := stp.new PP (o := .tup [V.ref f, V.non]) htp
          refine q rfl _ tp f psi stq ⟨keep hpi htp, ?_, stq.good, st.out hp2 np, st.out hc2 nc, hki, by rw [st.len]; exact few⟩ upd_same (keep hfi htp) (stp.only.free htp) hf (st.out hf2 nff) (fun z => by
          obtain ⟨o, e⟩ := st.good.trk PP z
          rw [htp] at e
          cases e)
          rw [keep hci htp, pV_fst (ps := ps.reverse) (ps' := psi.reverse) (by rw [List.map_reverse, List.map_reverse, st.fst])]
        · wtm_at "x"
          intro tp htp
          have h1 : H2 tp = none := o.free htp
          refine qf flt hflt _ tp f t ⟨keep hpi htp, keep hti htp⟩ upd_same (keep hfi htp) (e2.free h1) hf (e2.free ht0) ⟨fun y u hy hn2 => ?_, fun y u hy => ?_⟩
          · have hn3 : y ≠ p ∧ y ∉ flat ps := by simpa using hn2
            have y1 := e2 y u hy (by simp)
            exact upd_get (ne_of_none y1 h1) (o y u y1 (by simp [hn3, ne_of_none hy hf]))
          · obtain ⟨u1, y1⟩ := e2.more y u hy
            obtain ⟨u2, y2⟩ := o.more y u1 y1
            exact upd_more y2
end
end Flow

namespace Flow
open PySem PySem.Spec PyProof.Rows L2
def spClosing (K : PySem.W.Frag) : Sp := fun vs H Q _ => ∃ (n : Nat) (p c dx p0 l0 : Addr) (rest : List V) (ps : List (Addr × Addr)) (s0 : RSt) (ss : List RSt), vs = [.ref p, .int (n : Int)] ∧
  H p = some (.ins (He.ga K "Reader") dx [("parts", .ref c), ("fault", .non)]) ∧ H c = some (.lst (pV ps.reverse ++ (V.ref p0 :: rest))) ∧ Good (RAt K) H ((p0, l0) :: ps) (s0 :: ss) ∧ ps.length = n ∧ n ≤ 8 ∧ p ∉ flat ((p0, l0) :: ps) ∧ c ∉ flat ((p0, l0) :: ps) ∧ ROks (s0 :: ss) ∧ (rclose n s0 ss).1.length ≤ 16777216 ∧
  ((rclose n s0 ss).2.2 = none → ∀ (H' : Hp) (r : Addr) (ps' : List (Addr × Addr)), Step (RAt K) [p0, l0] H ps ss H' ps' (rclose n s0 ss).2.1 → H' r = some (.lst (iV (rclose n s0 ss).1)) → H r = none → r ∉ flat ps' → Q (.ref r) H') ∧
  (∀ f, (rclose n s0 ss).2.2 = some f → ∀ (H' : Hp) (r t : Addr), H' p = some (.ins (He.ga K "Reader") dx [("parts", .ref c), ("fault", .ref t)]) → H' t = some (.tup (faultV f)) → H t = none → H r = none → H' r = some (.lst (iV (rclose n s0 ss).1)) → Only' (p :: flat ((p0, l0) :: ps)) H H' → Q (.ref r) H')
section
variable {P : Program} {w : World} {K : PySem.W.Frag} {mg : Str → Option Value} {base : Heap}
theorem ok_Reader_closing (T : Tx K mg) : DefOk P w K mg base 15 (He.ma K (He.ga K "Reader") "closing") ["self", "at"] (spClosing K) := by
  refine def_ok (N := n_Reader_closing) (fn_Reader_closing T) sc_Reader_closing (fun _ _ _ _ _ _ us hl => match us, hl with | [_, _], _ => rfl) (fun vs H Q E h => ?_) (fun cdv A outer s H vs Q E hr h => ?_)
  · obtain ⟨n, p, c, dx, p0, l0, rest, ps, s0, ss, rfl, _⟩ := h
    rfl
  · obtain ⟨n, p, c, dx, p0, l0, rest, ps, s0, ss, rfl, hp, hc, hg, hn', hn8, np, nc, hk, hz, q, qf⟩ := h
    have M_Reader_one := meth1 (cl_Reader T) (me_Reader_one T) ((ok_Reader_one (P := P) (w := w) (base := base) T n).mono (k := 14) (by omega))
    have PP := RAt_parts K
    obtain ⟨gt, np0, nl0, ne0⟩ := hg.tail
    have hw : RAt K H p0 l0 s0 := hg.at_ 0 p0 l0 s0 rfl rfl
    have np' : p ≠ p0 ∧ p ≠ l0 ∧ p ∉ flat ps := by
      have : p ∉ p0 :: l0 :: flat ps := np
      simpa using this
    have nc' : c ≠ p0 ∧ c ≠ l0 ∧ c ∉ flat ps := by
      have : c ∉ p0 :: l0 :: flat ps := nc
      simpa using this
    have hk0 : ROk s0 := hk s0 (List.mem_cons_self ..)
    have hkt : ROks ss := fun x hx => hk x (List.mem_cons_of_mem _ hx)
    refine drv_go (σ0 := [_, _, _, _, _, _]) ?_
    apply drv_cons (ps_try0 (tb := fun W => tAsg (tMu P w K mg base 5 "end" ["self"] (fun σ cls d H2 => W cls d σ H2) (tOp (rIxL K) (tFld K (tVar 0) "parts") (tVar 1)) tNil) (gName 2)) rfl rfl takes0 ?hh ?hb)
    case hh => exact (Clauses.named (i := 3) (ts := fun a cls d => tSeq (sFld K (tVar 0) (tTup (tCons (tC (.str "wrong")) (tCons (tVar 1) (tCons (tXf a cls d (He.ga K "Wrong") "place" (tVar 3)) tNil)))) "fault") (tRet (tLst tNil))) sc_Reader_closing.nd rfl rfl ⟨rfl, by decide, .inl (g_Wrong T)⟩ (fun a oe cls d pn hz hf => (pss_cons (ps_fld (pv 0) (pe_tup (pa_cons pe_str (pa_cons (pv 1) (pa_cons (pe_xf (xf_Wrong T) (no_Wrong_place T) hz hf (pv 3)) pa_nil)))) rfl)
      (pss_one (ps_ret (pe_lst pa_nil))))) (Clauses.bare (ts := fun a cls d => tSeq (sFld K (tVar 0) (tTup (tCons (tC (.str "cut")) (tCons (tVar 1) tNil))) "fault") (tRet (tLst tNil))) ⟨rfl, by decide, .inl (g_Cut T)⟩ (fun a oe cls d pn hz hf => (pss_cons (ps_fld (pv 0) (pe_tup (pa_cons pe_str (pa_cons (pv 1) pa_nil))) rfl)
      (pss_one (ps_ret (pe_lst pa_nil))))) Clauses.nil))
    case hb => exact fun W pn xe tk po => (pss_one (ps_set (i := 2) sc_Reader_closing.nd rfl (Or.inl rfl) (pe_mu0 5 ["self"] (hr.mono (by first | decide | omega)) (fun σ => passAt tk σ) (pe_ix ix_list (pe_fld (pv 0) rfl) (pv 1) (fun _ _ => rfl)))))
    refine drv_end (pss_cons (ps_set (i := 4) sc_Reader_closing.nd rfl (Or.inl rfl) (pe_lst pa_nil))
      (pss_cons (ps_for (passes_of rfl) rfl (pi_list (pv 2)) (pg_name (i := 5) sc_Reader_closing.nd rfl (Or.inl rfl)) (pss_one (ps_if (pt_cmpR op_isNS (pe_fld (pv 0) rfl) pe_non (nomark _)) (pss_one (ps_expr (pe_bm PySem.F.plainAttrs_list PySem.F.slot_list_extend PySem.F.type_list_extend mt_extend (pv 4) (pa_cons (pe_mm M_Reader_one (hr.mono (by first | decide | omega)) (fun _ => passE) (pv 0) (pa_cons (pe_op op_sub (pv 1) pe_int) (pa_cons (pv 5) pa_nil))) pa_nil)))) pss_nil)))
      (pss_one (ps_ret (pv 4))))) ?_
    try dsimp only [cxOf]
    wtm_at "x"
    unfold tTryE
    dsimp only
    wtm_at "x"
    have hix : (pV ps.reverse ++ (V.ref p0 :: rest))[n]? = some (.ref p0) := by
      rw [List.getElem?_append_right (by rw [pV_len, List.length_reverse, hn']; exact Nat.le_refl _), pV_len, List.length_reverse, hn', Nat.sub_self]
      rfl
    refine x_ixL (SqL.of hc) (at_of rfl hix) ?_
    wtm_at "x"
    refine x_rend T hw hk0 (fun row er H1 r hr0 hr' ho => ?_) (fun er H1 ho => ?_) (fun place er H1 d ho hd hx => ?_)
    · have e1 : rclose n s0 ss = rseq (rone n) ss row := by
        unfold rclose
        rw [er]
      rw [e1] at q qf hz
      have by1 := rend_ok hk0 er
      have gt1 : Good (RAt K) H1 ps ss := gt.ext PP ho fun x hx z => by
        rcases List.mem_cons.mp z with z | z
        · exact np0 (z ▸ hx)
        · exact nl0 ((List.mem_singleton.mp z) ▸ hx)
      have hp1 := ho p _ hp (by simp [np'])
      have hc1 := ho c _ hc (by simp [nc'])
      have nrp : r ≠ p := (ne_of_none hp hr0).symm
      have nrf : r ∉ flat ps := fun z => by
        obtain ⟨o, e⟩ := gt.trk PP z
        rw [hr0] at e
        cases e
      wtm_at "x"
      intro f hf
      have nfp : f ≠ p := (ne_of_none hp1 hf).symm
      have nfr : f ≠ r := (ne_of_none hr' hf).symm
      have nff : f ∉ flat ps := fun z => by
        obtain ⟨o, e⟩ := gt1.trk PP z
        rw [hf] at e
        cases e
      wtm_at "x"
      have e2 : Ext H1 (upd H1 f (.lst [])) := Only'.put0 Only'.refl hf
      have hf2 : (upd H1 f (.lst [])) f = some (.lst []) := upd_same
      generalize (upd H1 f (.lst [])) = H2 at *
      have hr2 := e2 r _ hr' (by simp)
      have hp2 := e2 p _ hp1 (by simp)
      have hc2 := e2 c _ hc1 (by simp)
      have gt2 : Good (RAt K) H2 ps ss := gt1.ext PP e2 fun _ _ z => nomatch z
      refine x_rForL (SqL.of hr2) (fun i σ Hi => (∃ v6, σ = [some (.ref p), some (.int (n : Int)), some (.ref r), none, some (.ref f), v6]) ∧
          ((∃ (psi : List (Addr × Addr)) (ssi : List RSt) (outi : Row), Step (RAt K) [f] H2 ps ss Hi psi ssi ∧ Hi f = some (.lst (iV outi)) ∧ ROks ssi ∧ (outi ++ (rseq (rone n) ssi (row.drop i)).1, (rseq (rone n) ssi (row.drop i)).2) = rseq (rone n) ss row) ∨
            ∃ (flt : Fault) (t : Addr), (rseq (rone n) ss row).2.2 = some flt ∧ Hi p = some (.ins (He.ga K "Reader") dx [("parts", .ref c), ("fault", .ref t)]) ∧ Hi t = some (.tup (faultV flt)) ∧ H2 t = none ∧ Hi f = some (.lst (iV (rseq (rone n) ss row).1)) ∧ Only' (p :: f :: flat ps) H2 Hi))
        ⟨⟨_, rfl⟩, Or.inl ⟨ps, ss, [], Step.refl gt2, hf2, hkt, rfl⟩⟩ ?_ ?_ ?_
      · rintro i σ Hi _ ⟨_, h | ⟨flt, t, _, _, _, _, _, o⟩⟩
        · obtain ⟨psi, ssi, outi, st, _⟩ := h
          exact SqL.of (st.only r _ hr2 (by simp [nfr.symm, nrf]))
        · exact SqL.of (o r _ hr2 (by simp [nrp, nfr.symm, nrf]))
      · rintro i x σ Hi hi ⟨⟨v6, rfl⟩, h | ⟨flt, t, hflt, hpi, hti, ht0, hfi, o⟩⟩
        · obtain ⟨psi, ssi, outi, st, hfi, hki, eo⟩ := h
          obtain ⟨z, hz1, rfl⟩ := iV_get hi
          have hbz : By z := by1 z (List.mem_of_getElem? hz1)
          have hpi := st.only p _ hp2 (by simp [nfp.symm, np'])
          have hci := st.only c _ hc2 (by
            have : c ≠ f := ne_of_none hc1 hf
            simp [this, nc'])
          have nfi : f ∉ flat psi := st.out hf2 nff
          have npi : p ∉ flat psi := st.out hp2 np'.2.2
          have nci : c ∉ flat psi := st.out hc2 nc'.2.2
          rw [drop_more hz1, rseq_cons] at eo
          have hci' : Hi c = some (.lst (pV psi.reverse ++ (V.ref p0 :: rest))) := by
            rw [hci, pV_fst (ps := ps.reverse) (ps' := psi.reverse) (by rw [List.map_reverse, List.map_reverse, st.fst])]
          have hlen : (rone n ssi z).1.length ≤ 16777216 ∧ outi.length + (rone n ssi z).1.length ≤ 16777216 := by
            have hz2 : (rseq (rone n) ss row).1.length ≤ 16777216 := hz
            rw [← eo] at hz2
            cases hro : rone n ssi z with
            | mk o1 r1 =>
              obtain ⟨ss1, fl⟩ := r1
              rw [hro] at hz2
              cases fl <;> simp only [List.length_append] at hz2 <;> exact ⟨by dsimp only; omega, by dsimp only; omega⟩
          wtm_at "x"
          refine ite_d (fun _ => ?_) fun hne => absurd rfl hne
          wtm_at "x"
          refine ⟨p, c, dx, _, psi, ssi, z, rfl, hpi, hci', st.good, by rw [st.len]; exact hn', npi, nci, hki, hbz, hlen.1, fun hno H3 r3 ps3 st3 hr3 hr30 nr3 => ?_, fun flt hflt H3 r3 t3 hp3 ht3 ht30 hr30 hr3 o3 => ?_⟩
          · have hf3 : H3 f = some (.lst (iV outi)) := st3.only f _ hfi (by simpa using nfi)
            refine x_nil ?_
            refine x_extend hf3 hr3 (by rw [iV_length, iV_length, sizeLine_eq]; exact hlen.2) ?_
            have st4 : Step (RAt K) [f] H2 ps ss H3 ps3 (rone n ssi z).2.1 := st.trans (st3.wide fun x hx => nomatch hx)
            refine ⟨⟨_, rfl⟩, Or.inl ⟨ps3, (rone n ssi z).2.1, outi ++ (rone n ssi z).1, st4.put PP (by simp) (st4.out hf2 nff), by rw [upd_same, iV_append], (rone_oks n ssi z hki hbz).1, ?_⟩⟩
            rw [← eo]
            generalize rone n ssi z = o at hno ⊢
            obtain ⟨o1, ss1, fl⟩ := o
            have hno' : fl = none := hno
            subst hno'
            dsimp only
            rw [List.append_assoc]
          · have nfp3 : f ∉ flat psi := nfi
            have hf3 : H3 f = some (.lst (iV outi)) := o3 f _ hfi (by simp [nfp, nfi])
            refine x_nil ?_
            refine x_extend hf3 hr3 (by rw [iV_length, iV_length, sizeLine_eq]; exact hlen.2) ?_
            have et : t3 ≠ f := (ne_of_none hfi ht30).symm
            have eo3 : (rseq (rone n) ss row).2.2 = some flt ∧ (rseq (rone n) ss row).1 = outi ++ (rone n ssi z).1 := by
              rw [← eo]
              generalize rone n ssi z = o at hflt ⊢
              obtain ⟨o1, ss1, fl⟩ := o
              have hfl' : fl = some flt := hflt
              subst hfl'
              exact ⟨rfl, rfl⟩
            refine ⟨⟨_, rfl⟩, Or.inr ⟨flt, t3, eo3.1, upd_get nfp.symm hp3, upd_get et ht3, st.only.free ht30, by rw [upd_same, eo3.2, iV_append], ⟨fun y u hy hn2 => ?_, fun y u hy => ?_⟩⟩⟩
            · have hn3 : y ≠ p ∧ y ≠ f ∧ y ∉ flat ps := by simpa using hn2
              have y1 := st.only y u hy (by simp [hn3])
              refine upd_get hn3.2.1 (o3 y u y1 ?_)
              have : y ∉ flat psi := st.out hy hn3.2.2
              simp [hn3, this]
            · obtain ⟨u1, y1⟩ := st.only.more y u hy
              obtain ⟨u2, y2⟩ := o3.more y u1 y1
              exact upd_more y2
        · wtm_at "x"
          exact ⟨⟨_, rfl⟩, Or.inr ⟨flt, t, hflt, hpi, hti, ht0, hfi, o⟩⟩
      · rintro σ Hi ⟨⟨v6, rfl⟩, h | ⟨flt, t, hflt, hpi, hti, ht0, hfi, o⟩⟩
        · obtain ⟨psi, ssi, outi, st, hfi, hki, eo⟩ := h
          rw [iV_length, List.drop_length] at eo
          have eo2 : (outi, ssi, none) = rseq (rone n) ss row := by
            rw [← eo]
            show _ = (outi ++ [], _, _)
            rw [List.append_nil]
          wtm_at "x"
          rw [← eo2] at q
          have stp : Step (RAt K) [] H1 ps ss Hi psi ssi := st.pre e2 fun x hx => Or.inr (by rw [List.mem_singleton.mp hx]; exact hf)
          exact q rfl Hi f psi (Step.pre (X := []) (X' := [p0, l0]) ho stp (fun _ z => nomatch z)) hfi (ho.free hf) (st.out hf2 nff)
        · wtm_at "x"
          refine qf flt hflt Hi f t hpi hti (ho.free (e2.free ht0)) (ho.free hf) hfi ⟨fun y u hy hn2 => ?_, fun y u hy => ?_⟩
          · have hn3 : y ≠ p ∧ y ≠ p0 ∧ y ≠ l0 ∧ y ∉ flat ps := by
              have : y ∉ p :: p0 :: l0 :: flat ps := hn2
              simpa using this
            have y1 := ho y u hy (by simp [hn3])
            exact o y u (e2 y u y1 (by simp)) (by simp [hn3, ne_of_none y1 hf])
          · obtain ⟨u1, y1⟩ := ho.more y u hy
            obtain ⟨u2, y2⟩ := e2.more y u1 y1
            exact o.more y u2 y2
    · have e1 : rclose n s0 ss = ([], ss, some (.cut (n : Int))) := by
        unfold rclose
        rw [er]
      have hp1 := ho p _ hp (by simp [np'])
      refine ⟨false, xm_Cut_Wrong T, (fun z => nomatch z), fun _ => ⟨true, xm_Cut_Cut T, fun _ a ha => ?_, fun z => nomatch z⟩⟩
      wtm_at "x"
      intro t ht
      wtm_at "x"
      intro r hr
      obtain ⟨n1, hr⟩ := upd_none hr
      obtain ⟨n2, hr1⟩ := upd_none hr
      rw [e1] at qf
      have nt : t ≠ p := (ne_of_none hp1 ht).symm
      refine qf (.cut (n : Int)) rfl _ r t (by wtm_at "h") (upd_get (Ne.symm n2) (upd_get nt upd_same)) (ho.free ht) (ho.free hr1) upd_same ?_
      exact (((ho.mono (by simp [flat])).put0 (ho.free ht)).put (by simp)).put0 (ho.free hr1)
    · have e1 : rclose n s0 ss = ([], ss, some (.wrong (n : Int) place)) := by
        unfold rclose
        rw [er]
      have hp1 := ho p _ hp (by simp [np'])
      refine ⟨true, xm_Wrong_Wrong T, fun _ a ha => ?_, fun z => nomatch z⟩
      wtm_at "x"
      refine ⟨_, rfl, rfl, rfl, d, _, _, rfl, hx, rfl, ?_⟩
      wtm_at "x"
      intro t ht
      wtm_at "x"
      intro r hr
      obtain ⟨n1, hr⟩ := upd_none hr
      obtain ⟨n2, hr1⟩ := upd_none hr
      rw [e1] at qf
      have nt : t ≠ p := (ne_of_none hp1 ht).symm
      refine qf (.wrong (n : Int) place) rfl _ r t (by wtm_at "h") (upd_get (Ne.symm n2) (upd_get nt upd_same)) (ho.free ht) (ho.free hr1) upd_same ?_
      exact (((ho.mono (by simp [flat])).put0 (ho.free ht)).put (by simp)).put0 (ho.free hr1)
end
end Flow

namespace Flow
open PySem PySem.Spec PyProof.Rows L2
/-- the end, and what is told -/
def spReaderEnd (K : PySem.W.Frag) : Sp := fun vs H Q _ => ∃ (p c dx : Addr) (ps : List (Addr × Addr)) (ss : List RSt), vs = [.ref p] ∧ ReaderAt K H p c dx ps ss ∧ (rendAll ss.length ss).1.length ≤ 16777216 ∧
  ((rendAll ss.length ss).2 = none → ∀ (H' : Hp) (tp r : Addr), H' tp = some (.tup [.ref r, .non]) → H' r = some (.lst (iV (rendAll ss.length ss).1)) → H tp = none → H r = none → Only' (p :: flat ps) H H' → Q (.ref tp) H') ∧
  (∀ flt, (rendAll ss.length ss).2 = some flt → ∀ (H' : Hp) (tp r t : Addr), H' tp = some (.tup [.ref r, .ref t]) → H' r = some (.lst (iV (rendAll ss.length ss).1)) → H' t = some (.tup (faultV flt)) → H tp = none → H r = none → H t = none → Only' (p :: flat ps) H H' → Q (.ref tp) H')
def spReaderEndF (K : PySem.W.Frag) : Sp := fun vs H Q _ => ∃ (p c dx t : Addr) (n : Nat) (flt : Fault), vs = [.ref p] ∧ ReaderFl K H p c dx t flt ∧ (∃ ys : List V, H c = some (.lst ys) ∧ ys.length = n ∧ n ≤ 8) ∧
  ∀ (H' : Hp) (tp r : Addr), Ext H H' → H' tp = some (.tup [.ref r, .ref t]) → H' r = some (.lst []) → H tp = none → H r = none → Q (.ref tp) H'
def spReaderEndB (K : PySem.W.Frag) : Sp := fun vs H Q E => spReaderEndF K vs H Q E ∨ spReaderEnd K vs H Q E
section
variable {P : Program} {w : World} {K : PySem.W.Frag} {mg : Str → Option Value} {base : Heap}
theorem ok_Reader_end (T : Tx K mg) : DefOk P w K mg base 16 (He.ma K (He.ga K "Reader") "end") ["self"] (spReaderEndB K) := by
  have M_Reader_closing := meth1 (cl_Reader T) (me_Reader_closing T) (ok_Reader_closing (P := P) (w := w) (base := base) T)
  refine def_ok (N := n_Reader_end) (fn_Reader_end T) sc_Reader_end (fun _ _ _ _ _ _ us hl => match us, hl with | [_], _ => rfl) (fun vs H Q E h => ?_) (fun cdv A outer s H vs Q E hr h => ?_)
  · rcases h with ⟨p, c, dx, t, n, flt, rfl, _⟩ | ⟨p, c, dx, ps, ss, rfl, _⟩ <;> rfl
  · rcases h with h | h
    · obtain ⟨p, c, dx, t, n, flt, rfl, ⟨hp, ht⟩, ⟨ys, hc, hys, hn8⟩, q⟩ := h
      refine ⟨_, [_, _, _], (pss_cons (ps_set (i := 1) sc_Reader_end.nd rfl (Or.inl rfl) (pe_lst pa_nil))
      (pss_cons (ps_for (passes_of rfl) rfl (pi_revR rfl (f_reversed T) (prg_1 rfl (f_range T) (pe_callB call_lenS rfl (f_len T) (by decide +kernel) (pa_cons (pe_fld (pv 0) rfl) pa_nil)))) (pg_name (i := 2) sc_Reader_end.nd rfl (Or.inl rfl)) (pss_one (ps_if (pt_cmpR op_isNS (pe_fld (pv 0) rfl) pe_non (nomark _)) (pss_one (ps_expr (pe_bm PySem.F.plainAttrs_list PySem.F.slot_list_extend PySem.F.type_list_extend mt_extend (pv 1) (pa_cons (pe_mm M_Reader_closing (hr.mono (by first | decide | omega)) (fun _ => passE) (pv 0) (pa_cons (pv 2) pa_nil)) pa_nil)))) pss_nil)))
      (pss_one (ps_ret (pe_tup (pa_cons (pv 1) (pa_cons (pe_fld (pv 0) rfl) pa_nil))))))), rfl, ?_⟩
      try dsimp only [cxOf]
      wtm_at "x"
      intro f hf
      wtm_at "x"
      have e1 : Ext H (upd H f (.lst [])) := Only'.put0 Only'.refl hf
      have hf1 : (upd H f (.lst [])) f = some (.lst []) := upd_same
      have nfp : f ≠ p := (ne_of_none hp hf).symm
      have nfc : f ≠ c := (ne_of_none hc hf).symm
      wtm_at "x"
      generalize (upd H f (.lst [])) = H1 at *
      have hp1 := e1 p _ hp (by simp)
      refine x_rForRev (k := n) (by rw [hys]) (by omega) (fun i σ Hi => (∃ v2, σ = [some (.ref p), some (.ref f), v2]) ∧ Hi = H1) ⟨⟨_, rfl⟩, rfl⟩ ?_ ?_
      · rintro i σ Hi hi ⟨⟨v3, rfl⟩, rfl⟩
        wtm_at "x"
        exact ⟨⟨_, rfl⟩, rfl⟩
      · rintro σ Hi ⟨⟨v3, rfl⟩, rfl⟩
        wtm_at "x"
        intro tp htp
        exact q _ tp f (e1.new htp) upd_same (keep hf1 htp) (e1.free htp) hf
    · obtain ⟨p, c, dx, ps, ss, rfl, hR, hz, q, qf⟩ := h
      have PP := RAt_parts K
      obtain ⟨hp, hc, hg, np, nc, hk, few⟩ := hR
      have hlen : ps.length = ss.length := hg.len
      refine ⟨_, [_, _, _], (pss_cons (ps_set (i := 1) sc_Reader_end.nd rfl (Or.inl rfl) (pe_lst pa_nil))
      (pss_cons (ps_for (passes_of rfl) rfl (pi_revR rfl (f_reversed T) (prg_1 rfl (f_range T) (pe_callB call_lenS rfl (f_len T) (by decide +kernel) (pa_cons (pe_fld (pv 0) rfl) pa_nil)))) (pg_name (i := 2) sc_Reader_end.nd rfl (Or.inl rfl)) (pss_one (ps_if (pt_cmpR op_isNS (pe_fld (pv 0) rfl) pe_non (nomark _)) (pss_one (ps_expr (pe_bm PySem.F.plainAttrs_list PySem.F.slot_list_extend PySem.F.type_list_extend mt_extend (pv 1) (pa_cons (pe_mm M_Reader_closing (hr.mono (by first | decide | omega)) (fun _ => passE) (pv 0) (pa_cons (pv 2) pa_nil)) pa_nil)))) pss_nil)))
      (pss_one (ps_ret (pe_tup (pa_cons (pv 1) (pa_cons (pe_fld (pv 0) rfl) pa_nil))))))), rfl, ?_⟩
      try dsimp only [cxOf]
      wtm_at "x"
      intro f hf
      have nfp : f ≠ p := (ne_of_none hp hf).symm
      have nfc : f ≠ c := (ne_of_none hc hf).symm
      wtm_at "x"
      have e2 : Ext H (upd H f (.lst [])) := Only'.put0 Only'.refl hf
      have hf2 : (upd H f (.lst [])) f = some (.lst []) := upd_same
      generalize (upd H f (.lst [])) = H2 at *
      have hp2 := e2 p _ hp (by simp)
      have hc2 := e2 c _ hc (by simp)
      have gt2 : Good (RAt K) H2 ps ss := hg.ext PP e2 fun _ _ z => nomatch z
      have nff : f ∉ flat ps := fun z => by
        obtain ⟨o, e⟩ := hg.trk PP z
        rw [hf] at e
        cases e
      rw [← hlen] at q qf hz
      refine x_rForRev (k := ps.length) (by rw [pV_len, List.length_reverse]) (by omega) (fun i σ Hi => (∃ v2, σ = [some (.ref p), some (.ref f), v2]) ∧
          ((∃ (psi : List (Addr × Addr)) (ssi : List RSt) (outi : Row) (rest : List V), psi.length + i = ps.length ∧ Hi p = some (.ins (He.ga K "Reader") dx [("parts", .ref c), ("fault", .non)]) ∧ Hi c = some (.lst (pV psi.reverse ++ rest)) ∧ Good (RAt K) Hi psi ssi ∧ p ∉ flat psi ∧ c ∉ flat psi ∧ f ∉ flat psi ∧ ROks ssi ∧
              Hi f = some (.lst (iV outi)) ∧ Only' (p :: f :: flat ps) H2 Hi ∧ (∀ x, x ∈ flat psi → x ∈ flat ps ∨ H2 x = none) ∧ (outi ++ (rendAll psi.length ssi).1, (rendAll psi.length ssi).2) = rendAll ps.length ss) ∨
            ∃ (flt : Fault) (t : Addr), (rendAll ps.length ss).2 = some flt ∧ Hi p = some (.ins (He.ga K "Reader") dx [("parts", .ref c), ("fault", .ref t)]) ∧ Hi t = some (.tup (faultV flt)) ∧ H2 t = none ∧ Hi f = some (.lst (iV (rendAll ps.length ss).1)) ∧ Only' (p :: f :: flat ps) H2 Hi))
        ⟨⟨_, rfl⟩, Or.inl ⟨ps, ss, [], [], rfl, hp2, by rw [List.append_nil]; exact hc2, gt2, np, nc, nff, hk, hf2, Only'.refl, fun x hx => Or.inl hx, rfl⟩⟩ ?_ ?_
      · rintro i σ Hi hi ⟨⟨v2, rfl⟩, h | ⟨flt, t, hflt, hpi, hti, ht0, hfi, o⟩⟩
        · obtain ⟨psi, ssi, outi, rest, hli, hpi, hci, gi, npi, nci, nfi, hki, hfi, oi, oldi, eo⟩ := h
          cases psi with
          | nil => simp at hli; omega
          | cons pl pst =>
          cases ssi with
          | nil =>
            have := gi.len
            simp at this
          | cons s0 sst =>
          obtain ⟨p0, l0⟩ := pl
          obtain ⟨gt, np0, nl0, ne0⟩ := gi.tail
          have hn : ps.length - 1 - i = pst.length := by
            rw [List.length_cons] at hli
            omega
          rw [hn]
          have hcl : Hi c = some (.lst (pV pst.reverse ++ (V.ref p0 :: rest))) := by
            rw [hci]
            unfold pV
            simp
          have npt : p ∉ flat pst := fun z => npi (List.mem_cons_of_mem _ (List.mem_cons_of_mem _ z))
          have nct : c ∉ flat pst := fun z => nci (List.mem_cons_of_mem _ (List.mem_cons_of_mem _ z))
          have nft : f ∉ flat pst := fun z => nfi (List.mem_cons_of_mem _ (List.mem_cons_of_mem _ z))
          have npp : p ≠ p0 ∧ p ≠ l0 := by
            have : p ∉ p0 :: l0 :: flat pst := npi
            simp at this
            exact ⟨this.1, this.2.1⟩
          have ncc : c ≠ p0 ∧ c ≠ l0 := by
            have : c ∉ p0 :: l0 :: flat pst := nci
            simp at this
            exact ⟨this.1, this.2.1⟩
          have nff2 : f ≠ p0 ∧ f ≠ l0 := by
            have : f ∉ p0 :: l0 :: flat pst := nfi
            simp at this
            exact ⟨this.1, this.2.1⟩
          have hk0 : ROk s0 := hki s0 (List.mem_cons_self ..)
          have hkt : ROks sst := fun x hx => hki x (List.mem_cons_of_mem _ hx)
          rw [List.length_cons, rendAll_more] at eo
          have hln : (rclose pst.length s0 sst).1.length ≤ 16777216 ∧ outi.length + (rclose pst.length s0 sst).1.length ≤ 16777216 := by
            rw [← eo] at hz
            cases hro : rclose pst.length s0 sst with
            | mk o1 r1 =>
              obtain ⟨ss1, fl⟩ := r1
              rw [hro] at hz
              cases fl <;> simp only [List.length_append] at hz <;> exact ⟨by dsimp only; omega, by dsimp only; omega⟩
          have onw : ∀ x, x ∈ flat ((p0, l0) :: pst) → x ∈ p :: f :: flat ps ∨ H2 x = none := fun x hx => (oldi x hx).imp (fun z => List.mem_cons_of_mem _ (List.mem_cons_of_mem _ z)) id
          wtm_at "x"
          refine ite_d (fun _ => ?_) fun hne => absurd rfl hne
          wtm_at "x"
          refine ⟨pst.length, p, c, dx, p0, l0, rest, pst, s0, sst, rfl, hpi, hcl, gi, rfl, by rw [List.length_cons] at hli; omega, npi, nci, hki, hln.1, fun hno H3 r3 ps3 st3 hr3 hr30 nr3 => ?_, fun flt hflt H3 r3 t3 hp3 ht3 ht30 hr30 hr3 o3 => ?_⟩
          · have hf3 : H3 f = some (.lst (iV outi)) := st3.only f _ hfi (by simp [nff2, nft])
            have hp3 := st3.only p _ hpi (by simp [npp, npt])
            have hc3 := st3.only c _ hcl (by simp [ncc, nct])
            refine x_nil ?_
            refine x_extend hf3 hr3 (by rw [iV_length, iV_length, sizeLine_eq]; exact hln.2) ?_
            have nf3 : f ∉ flat ps3 := st3.out hfi nft
            refine ⟨⟨_, rfl⟩, Or.inl ⟨ps3, (rclose pst.length s0 sst).2.1, outi ++ (rclose pst.length s0 sst).1, V.ref p0 :: rest, by rw [st3.len]; rw [List.length_cons] at hli; omega, upd_get nfp.symm hp3, ?_, ?_, st3.out hpi npt, st3.out hcl nct, nf3, (rclose_oks pst.length hk0 hkt).1, by rw [upd_same, iV_append], ?_, fun x hx => ?_, ?_⟩⟩
            · rw [upd_ne nfc.symm, hc3, pV_fst (ps := pst.reverse) (ps' := ps3.reverse) (by rw [List.map_reverse, List.map_reverse, st3.fst])]
            · exact st3.good.ext PP (Z := [f]) (Only'.put Only'.refl (List.mem_cons_self ..)) fun x hx z => nf3 (by rw [← List.mem_singleton.mp z]; exact hx)
            · refine ⟨fun y u hy hn2 => ?_, fun y u hy => ?_⟩
              · have y1 := oi y u hy hn2
                have nfy : y ≠ f := fun z => hn2 (by rw [z]; simp)
                refine upd_get nfy (st3.only y u y1 fun z => ?_)
                have zz : y ∈ flat ((p0, l0) :: pst) := z
                rcases onw y zz with w1 | w1
                · exact hn2 w1
                · rw [hy] at w1; cases w1
              · obtain ⟨u1, y1⟩ := oi.more y u hy
                obtain ⟨u2, y2⟩ := st3.only.more y u1 y1
                exact upd_more y2
            · rcases st3.old x hx with z | z
              · exact oldi x (List.mem_cons_of_mem _ (List.mem_cons_of_mem _ z))
              · exact Or.inr (oi.free z)
            · rw [← eo, st3.len]
              generalize rclose pst.length s0 sst = o at hno ⊢
              obtain ⟨o1, ss1, fl⟩ := o
              have hno' : fl = none := hno
              subst hno'
              dsimp only
              rw [List.append_assoc]
          · have hf3 : H3 f = some (.lst (iV outi)) := o3 f _ hfi (by
              have : f ∉ flat ((p0, l0) :: pst) := nfi
              simp [nfp, this])
            refine x_nil ?_
            refine x_extend hf3 hr3 (by rw [iV_length, iV_length, sizeLine_eq]; exact hln.2) ?_
            have et : t3 ≠ f := (ne_of_none hfi ht30).symm
            have eo3 : (rendAll ps.length ss).2 = some flt ∧ (rendAll ps.length ss).1 = outi ++ (rclose pst.length s0 sst).1 := by
              rw [← eo]
              generalize rclose pst.length s0 sst = o at hflt ⊢
              obtain ⟨o1, ss1, fl⟩ := o
              have hfl' : fl = some flt := hflt
              subst hfl'
              exact ⟨rfl, rfl⟩
            refine ⟨⟨_, rfl⟩, Or.inr ⟨flt, t3, eo3.1, upd_get nfp.symm hp3, upd_get et ht3, oi.free ht30, by rw [upd_same, eo3.2, iV_append], ⟨fun y u hy hn2 => ?_, fun y u hy => ?_⟩⟩⟩
            · have y1 := oi y u hy hn2
              have nfy : y ≠ f := fun z => hn2 (by rw [z]; simp)
              have npy : y ≠ p := fun z => hn2 (by rw [z]; simp)
              refine upd_get nfy (o3 y u y1 fun z => ?_)
              rcases List.mem_cons.mp z with z | z
              · exact npy z
              · rcases onw y z with w1 | w1
                · exact hn2 w1
                · rw [hy] at w1; cases w1
            · obtain ⟨u1, y1⟩ := oi.more y u hy
              obtain ⟨u2, y2⟩ := o3.more y u1 y1
              exact upd_more y2
        · wtm_at "x"
          exact ⟨⟨_, rfl⟩, Or.inr ⟨flt, t, hflt, hpi, hti, ht0, hfi, o⟩⟩
      · have fin : ∀ (Hi : Hp) (tp : Addr) (o : HO), Hi tp = none → Only' (p :: f :: flat ps) H2 Hi → Only' (p :: flat ps) H (upd Hi tp o) := fun Hi tp o htp oi => ⟨fun y u hy hn2 => by
          have y1 := e2 y u hy (by simp)
          have hn3 : y ≠ p ∧ y ∉ flat ps := by simpa using hn2
          exact upd_get (ne_of_none y1 (oi.free htp)) (oi y u y1 (by simp [hn3, ne_of_none hy hf])), fun y u hy => by
          obtain ⟨u1, y1⟩ := e2.more y u hy
          obtain ⟨u2, y2⟩ := oi.more y u1 y1
          exact upd_more y2⟩
        rintro σ Hi ⟨⟨v2, rfl⟩, h | ⟨flt, t, hflt, hpi, hti, ht0, hfi, o⟩⟩
        · obtain ⟨psi, ssi, outi, rest, hli, hpi, hci, gi, npi, nci, nfi, hki, hfi, oi, oldi, eo⟩ := h
          have h0 : psi.length = 0 := by omega
          rw [h0] at eo
          have eo2 : (outi, none) = rendAll ps.length ss := by
            rw [← eo]
            show ((outi, none) : Row × Option Fault) = (outi ++ [], none)
            rw [List.append_nil]
          wtm_at "x"
          intro tp htp
          rw [← eo2] at q
          exact q rfl _ tp f upd_same (keep hfi htp) (e2.free (oi.free htp)) hf (fin Hi tp _ htp oi)
        · wtm_at "x"
          intro tp htp
          exact qf flt hflt _ tp f t upd_same (keep hfi htp) (keep hti htp) (e2.free (o.free htp)) hf (e2.free ht0) (fin Hi tp _ htp o)
end
end Flow

namespace Flow
open PySem PySem.Spec PyProof.Rows L2
/-- a fault's value -/
def FltAt (H H' : Hp) (fv : V) : Option Fault → Prop
  | none => fv = .non
  | some flt => ∃ t, fv = .ref t ∧ H t = none ∧ H' t = some (.tup (faultV flt))
theorem FltAt.ext {H H1 H2 : Hp} {fv : V} {fo : Option Fault} (h : FltAt H H1 fv fo) (e : Ext H1 H2) : FltAt H H2 fv fo := by
  cases fo with
  | none => exact h
  | some flt =>
    obtain ⟨t, a, b, c⟩ := h
    exact ⟨t, a, b, e t _ c (by simp)⟩
theorem FltAt.pre {H0 H H1 : Hp} {fv : V} {fo : Option Fault} (h : FltAt H H1 fv fo) (e : ∀ a, H a = none → H0 a = none) : FltAt H0 H1 fv fo := by
  cases fo with
  | none => exact h
  | some flt =>
    obtain ⟨t, a, b, c⟩ := h
    exact ⟨t, a, e t b, c⟩
theorem readAll_of {lays : List Lay} {row : Row} : readAll lays row = (match rrow (lays.reverse.map newR) row with
    | (o, _, some x) => (o, some x)
    | (o, ss, none) => (o ++ (rendAll ss.length ss).1, (rendAll ss.length ss).2)) := rfl
def spRead (K : PySem.W.Frag) : Sp := fun vs H Q E => ∃ (a rw_ : Addr) (ls : List (Str × Row)) (row : Row), vs = [.ref a, .ref rw_] ∧ Handed K H a ls ∧ H rw_ = some (.lst (iV row)) ∧ Bys row ∧
  (∀ lays : List Lay, ls = lays.map rawOf → (∀ ly, ly ∈ lays → ly.Ok) → lays.length ≤ 8 → (readAll lays row).1.length ≤ 16777216 ∧
    ∀ (H' : Hp) (tp r : Addr) (fv : V), Ext H H' → H tp = none → H r = none → H' tp = some (.tup [.ref r, fv]) → H' r = some (.lst (iV (readAll lays row).1)) → FltAt H H' fv (readAll lays row).2 → Q (.ref tp) H') ∧
  (goodAll ls = false → ∀ H', Ext H H' → E (.ref (He.ga K "BadLayer")) none H')
section
variable {P : Program} {w : World} {K : PySem.W.Frag} {mg : Str → Option Value} {base : Heap}
theorem ok_read (T : Tx K mg) : DefOk P w K mg base 17 (He.ga K "read") ["layers", "row"] (spRead K) := by
  have D_Reader : MakeOk P w K mg base 4 (He.ga K "Reader") _ _ := ⟨_, mk_Reader T, ok_Reader_init T⟩
  have M_Reader_take := meth1 (cl_Reader T) (me_Reader_take T) (ok_Reader_take (P := P) (w := w) (base := base) T)
  have M_Reader_end := meth1 (cl_Reader T) (me_Reader_end T) (ok_Reader_end (P := P) (w := w) (base := base) T)
  refine def_ok (N := n_read) (fn_read T) sc_read (fun _ _ _ _ _ _ us hl => match us, hl with | [_, _], _ => rfl) (fun vs H Q E h => ?_) (fun cdv A outer s H vs Q E hr h => ?_)
  · obtain ⟨a, rw_, ls, row, rfl, _⟩ := h
    rfl
  · obtain ⟨a, rw_, ls, row, rfl, hh, hrw, hby, qg, qb⟩ := h
    refine ⟨_, [_, _, _, _, _], (pss_cons (ps_set (i := 2) sc_read.nd rfl (Or.inl rfl) (pe_mk D_Reader (g_Reader T) (hr.mono (by first | decide | omega)) (fun σ => passAt (takes_of rfl rfl rfl rfl) σ) (pa_cons (pv 0) pa_nil)))
      (pss_cons (ps_set (i := 3) sc_read.nd rfl (Or.inl rfl) (pe_mm M_Reader_take (hr.mono (by first | decide | omega)) (fun _ => passE) (pv 2) (pa_cons (pv 1) pa_nil)))
      (pss_cons (ps_set (i := 4) sc_read.nd rfl (Or.inl rfl) (pe_mm0 M_Reader_end (hr.mono (by first | decide | omega)) (fun _ => passE) (pv 2)))
      (pss_one (ps_ret (pe_tup (pa_cons (pe_op op_cat (pe_ix ix_tup (pv 3) pe_int (fun _ _ => rfl)) (pe_ix ix_tup (pv 4) pe_int (fun _ _ => rfl))) (pa_cons (pe_ix ix_tup (pv 4) pe_int (fun _ _ => rfl)) pa_nil)))))))), rfl, ?_⟩
    try dsimp only [cxOf]
    wtm_at "x"
    intro x dx nx ndx ne
    have e0 : Ext H (upd (upd H dx (.own x)) x (.ins (He.ga K "Reader") dx [])) := (Only'.put0 Only'.refl ndx).put0 nx
    refine ⟨x, dx, a, ls, rfl, upd_same, by rw [upd_ne ne, upd_same], hh.ext e0, fun lays el oks few H1 c ps hR hc hfr ho => ⟨rfl, ?_⟩, fun hg H1 e1 => qb hg H1 (e0.trans e1)⟩
    obtain ⟨hz, q⟩ := qg lays el oks few
    rw [readAll_of] at hz q
    generalize lays.reverse.map newR = ss at *
    have e1 : Ext H H1 := by
      refine ⟨fun b u hb _ => ?_, fun b u hb => ?_⟩
      · exact ho b u (e0 b u hb (by simp)) (by simp; exact ne_of_none hb nx)
      · obtain ⟨u1, h1⟩ := e0.more b u hb
        exact ho.more b u1 h1
    have hnone : ∀ y, y ∈ flat ps → H y = none := fun y hy => (upd_none (upd_none (hfr y hy)).2).2
    have hx1 := hR.ob
    have hrw1 := e1 rw_ _ hrw (by simp)
    have nrw : rw_ ∉ flat ps := fun z => by
      rw [hnone _ z] at hrw
      cases hrw
    wtm_at "x"
    refine Or.inr ⟨x, c, dx, rw_, ps, ss, row, rfl, hR, SqL.of hrw1, nrw, hby, ?_, fun hno H2 tp r ps2 st2 hR2 htp hr htp0 hr0 nr2 ntp2 => ?_, fun flt hflt H2 tp r t hF htp hr htp0 hr0 ht0 o2 => ?_⟩
    · generalize rrow ss row = o at hz
      obtain ⟨o1, ss1, fl⟩ := o
      cases fl with
      | none =>
        simp only [List.length_append] at hz
        show o1.length ≤ _
        omega
      | some flt => exact hz
    · generalize rrow ss row = o at *
      obtain ⟨o1, ss1, fl⟩ := o
      have hno' : fl = none := hno
      subst hno'
      dsimp only at *
      have hx2 := hR2.ob
      have nxr : x ≠ r := ne_of_none hx1 hr0
      have nxt : x ≠ tp := ne_of_none hx1 htp0
      wtm_at "x"
      have e2 : Ext H H2 := ⟨fun b u hb _ => st2.only b u (e1 b u hb (by simp)) (by
        simp only [List.nil_append]
        intro z
        rw [hnone b z] at hb
        cases hb), fun b u hb => by
        obtain ⟨u1, h1⟩ := e1.more b u hb
        exact st2.only.more b u1 h1⟩
      have hold : ∀ y, y ∈ x :: flat ps2 → H y = none := fun y hy => by
        rcases List.mem_cons.mp hy with z | z
        · rw [z]; exact nx
        · rcases st2.old y z with z | z
          · exact hnone y z
          · exact e1.free z
      have e3 : ∀ H3, Only' (x :: flat ps2) H2 H3 → Ext H H3 := fun H3 o3 => ⟨fun b u hb _ => o3 b u (e2 b u hb (by simp)) (fun z => by
        rw [hold b z] at hb
        cases hb), fun b u hb => by
        obtain ⟨u1, h1⟩ := e2.more b u hb
        exact o3.more b u1 h1⟩
      rw [List.length_append] at hz
      refine Or.inr ⟨x, c, dx, ps2, ss1, rfl, hR2, by omega, fun hno3 H3 tp3 r3 htp3 hr3 htp30 hr30 o3 => ?_, fun flt hflt H3 tp3 r3 t3 htp3 hr3 ht3 htp30 hr30 ht30 o3 => ?_⟩
      · have htp' := o3 tp _ htp (by simp [nxt.symm, ntp2])
        have hr' := o3 r _ hr (by simp [nxr.symm, nr2])
        wtm_at "x"
        refine x_ixT (SqT.of htp') (at_of (j := 0) rfl rfl) ?_
        wtm_at "x"
        refine x_ixT (SqT.of htp3) (at_of (j := 0) rfl rfl) ?_
        refine x_cat hr' hr3 (by rw [iV_length, iV_length, sizeLine_eq]; exact hz) fun r4 hr4 => ?_
        wtm_at "x"
        refine x_ixT (SqT.of (keep htp3 hr4)) (at_of (j := 1) rfl rfl) ?_
        wtm_at "x"
        intro tp5 htp5
        have e4 := (e3 H3 o3).new (o := .lst (iV o1 ++ iV (rendAll ss1.length ss1).1)) hr4
        refine q _ tp5 r4 .non (e4.new htp5) (e4.free htp5) ((e3 H3 o3).free hr4) upd_same (keep ?_ htp5) ?_
        · rw [upd_same, iV_append]
        · rw [hno3]
          rfl
      · have htp' := o3 tp _ htp (by simp [nxt.symm, ntp2])
        have hr' := o3 r _ hr (by simp [nxr.symm, nr2])
        wtm_at "x"
        refine x_ixT (SqT.of htp') (at_of (j := 0) rfl rfl) ?_
        wtm_at "x"
        refine x_ixT (SqT.of htp3) (at_of (j := 0) rfl rfl) ?_
        refine x_cat hr' hr3 (by rw [iV_length, iV_length, sizeLine_eq]; exact hz) fun r4 hr4 => ?_
        wtm_at "x"
        refine x_ixT (SqT.of (keep htp3 hr4)) (at_of (j := 1) rfl rfl) ?_
        wtm_at "x"
        intro tp5 htp5
        have e4 := (e3 H3 o3).new (o := .lst (iV o1 ++ iV (rendAll ss1.length ss1).1)) hr4
        refine q _ tp5 r4 (.ref t3) (e4.new htp5) (e4.free htp5) ((e3 H3 o3).free hr4) upd_same (keep ?_ htp5) ?_
        · rw [upd_same, iV_append]
        · rw [hflt]
          exact ⟨t3, rfl, e2.free ht30, keep (keep ht3 hr4) htp5⟩
    · generalize rrow ss row = o at *
      obtain ⟨o1, ss1, fl⟩ := o
      have hfl : fl = some flt := hflt
      subst hfl
      dsimp only at *
      have hx2 := hF.ob
      have hcl := hR.cl
      have nxc : c ∉ x :: flat ps := fun z => by
        rcases List.mem_cons.mp z with z | z
        · rw [z, hx1] at hcl
          cases hcl
        · exact hR.nc z
      have hc2 := o2 c _ hcl nxc
      wtm_at "x"
      have e2 : Ext H H2 := ⟨fun b u hb _ => o2 b u (e1 b u hb (by simp)) (fun z => by
        rcases List.mem_cons.mp z with z | z
        · rw [z, nx] at hb
          cases hb
        · rw [hnone b z] at hb
          cases hb), fun b u hb => by
        obtain ⟨u1, h1⟩ := e1.more b u hb
        exact o2.more b u1 h1⟩
      refine Or.inl ⟨x, c, dx, t, ps.length, flt, rfl, hF, ⟨_, hc2, by rw [pV_len, List.length_reverse], hR.few⟩, fun H3 tp3 r3 e3 htp3 hr3 htp30 hr30 => ?_⟩
      have htp' := e3 tp _ htp (by simp)
      have hr' := e3 r _ hr (by simp)
      wtm_at "x"
      refine x_ixT (SqT.of htp') (at_of (j := 0) rfl rfl) ?_
      wtm_at "x"
      refine x_ixT (SqT.of htp3) (at_of (j := 0) rfl rfl) ?_
      refine x_cat (ys := iV []) hr' hr3 (by rw [iV_length, iV_length, sizeLine_eq]; simpa using hz) fun r4 hr4 => ?_
      wtm_at "x"
      refine x_ixT (SqT.of (keep htp3 hr4)) (at_of (j := 1) rfl rfl) ?_
      wtm_at "x"
      intro tp5 htp5
      have e4 := ((e2.trans e3)).new (o := .lst (iV o1 ++ iV [])) hr4
      refine q _ tp5 r4 (.ref t) (e4.new htp5) (e4.free htp5) ((e2.trans e3).free hr4) upd_same (keep ?_ htp5) ?_
      · rw [upd_same, ← iV_append, List.append_nil]
      · exact ⟨t, rfl, e1.free ht0, keep (keep (e3 t _ hF.fl (by simp)) hr4) htp5⟩
end
end Flow

namespace Flow
open PySem PySem.Spec PyProof.Rows L2
/-! ### a row cut into pieces; what a reader tells -/
structure Pieces (H0 H : Hp) (ts : List Addr) (ps : List Row) : Prop where
  len : ts.length = ps.length
  at_ : ∀ (i : Nat) (t : Addr) (p : Row), ts[i]? = some t → ps[i]? = some p → H t = some (.lst (iV p))
  new : ∀ t, t ∈ ts → H0 t = none
theorem Pieces.ext {H0 H H' : Hp} {ts : List Addr} {ps : List Row} (m : Pieces H0 H ts ps) (e : ∀ t o, t ∈ ts → H t = some o → H' t = some o) : Pieces H0 H' ts ps :=
  ⟨m.len, fun i t p h1 h2 => e t _ (List.mem_of_getElem? h1) (m.at_ i t p h1 h2), m.new⟩
theorem Pieces.snoc {H0 H : Hp} {ts : List Addr} {ps : List Row} {t : Addr} {p : Row} (m : Pieces H0 H ts ps) (h : H t = some (.lst (iV p))) (n : H0 t = none) : Pieces H0 H (ts ++ [t]) (ps ++ [p]) := by
  refine ⟨by rw [List.length_append, List.length_append, m.len]; rfl, fun i u l h1 h2 => ?_, fun u hu => ?_⟩
  · by_cases hi : i < ts.length
    · rw [List.getElem?_append_left hi] at h1
      rw [List.getElem?_append_left (by rw [← m.len]; exact hi)] at h2
      exact m.at_ i u l h1 h2
    · rw [List.getElem?_append_right (by omega)] at h1
      rw [List.getElem?_append_right (by rw [← m.len]; omega), ← m.len] at h2
      cases hd : i - ts.length with
      | zero =>
        rw [hd] at h1 h2
        have e1 : t = u := Option.some.inj h1
        have e2 : p = l := Option.some.inj h2
        subst e1 e2
        exact h
      | succ j =>
        rw [hd] at h1
        cases h1
  · rcases List.mem_append.mp hu with z | z
    · exact m.new u z
    · rw [List.mem_singleton.mp z]; exact n
def spLawCuts (K : PySem.W.Frag) : Sp := fun vs H Q _ => ∃ (a : Addr) (s : Row) (k : Int) (rw_ : Addr) (row : Row), vs = [.ref a, .int k, .ref rw_] ∧ SqL K H a (iV s) ∧ H rw_ = some (.lst (iV row)) ∧ row.length ≤ 8000000 ∧
  ∀ (ps : List Row) (ts : List Addr) (H' : Hp) (r : Addr), ps.flatten = row → Ext H H' → H r = none → H' r = some (.lst (ts.map V.ref)) → Pieces H H' ts ps → Q (.ref r) H'
def spIsTold (K : PySem.W.Frag) : Sp := fun vs H Q _ => ∃ (tp r : Addr) (fv : V) (row : Row), vs = [.ref tp] ∧ H tp = some (.tup [.ref r, fv]) ∧ H r = some (.lst (iV row)) ∧ Bys row ∧ row.length ≤ 16777216 ∧
  (fv = .non ∨ ∃ (t : Addr) (flt : Fault), fv = .ref t ∧ H t = some (.tup (faultV flt))) ∧ ∀ H', Ext H H' → Q (.bl true) H'
theorem faultV_tail (flt : Fault) : ∃ ys : Row, 1 ≤ (faultV flt).length ∧ (faultV flt).drop 1 = iV ys ∧ ys.length ≤ 2 := by
  cases flt with
  | wrong a b => exact ⟨[a, b], by simp [faultV], rfl, by simp⟩
  | cut a => exact ⟨[a], by simp [faultV], rfl, by simp⟩
section
variable {P : Program} {w : World} {K : PySem.W.Frag} {mg : Str → Option Value} {base : Heap}
theorem ok_law_cuts (T : Tx K mg) : DefOk P w K mg base 3 (He.ga K "_law_cuts") ["_law_script", "_law_k", "_law_row_here"] (spLawCuts K) := by
  have D_law_mix := ok_law_mix (P := P) (w := w) (base := base) T
  refine def_ok (N := n_law_cuts) (fn_law_cuts T) sc_law_cuts (fun _ _ _ _ _ _ us hl => match us, hl with | [_, _, _], _ => rfl) (fun vs H Q E h => ?_) (fun cdv A outer s H vs Q E hr h => ?_)
  · obtain ⟨a, s, k, rw_, row, rfl, _⟩ := h
    rfl
  · obtain ⟨a, s, k, rw_, row, rfl, hs, hrw, hz, q⟩ := h
    refine ⟨_, [_, _, _, _, _, _], (pss_cons (ps_set (i := 3) sc_law_cuts.nd rfl (Or.inl rfl) (pe_lst pa_nil))
      (pss_cons (ps_set (i := 4) sc_law_cuts.nd rfl (Or.inl rfl) pe_int)
      (pss_cons (ps_while (passes_of rfl) (pt_cmpR op_lt (pv 4) (pe_callB call_lenS rfl (f_len T) (by decide +kernel) (pa_cons (pv 2) pa_nil)) (nomark _)) (pss_cons (ps_set (i := 5) sc_law_cuts.nd rfl (Or.inl rfl) (pe_ix ix_list (pe_lst (pa_cons pe_int (pa_cons pe_int (pa_cons pe_int (pa_cons pe_int (pa_cons pe_int (pa_cons pe_int pa_nil))))))) (pe_op op_mod (pe_op op_fdivN (pe_fn D_law_mix (g_law_mix T) (hr.mono (by first | decide | omega)) (fun _ => passE) (pa_cons (pv 0) (pa_cons (pe_op op_add (pv 1) (pe_op op_mod (pe_callB call_lenS rfl (f_len T) (by decide +kernel) (pa_cons (pv 3) pa_nil)) pe_int)) pa_nil))) (pe_op op_add pe_int (pe_callB call_lenS rfl (f_len T) (by decide +kernel) (pa_cons (pv 3) pa_nil)))) pe_int) (fun _ _ => rfl)))
      (pss_cons (ps_set (i := 5) sc_law_cuts.nd rfl (Or.inl rfl) (pe_callB (call_max2S rfl) rfl (f_max T) (by decide +kernel) (pa_cons (pv 5) (pa_cons (pe_op op_mod (pe_callB call_lenS rfl (f_len T) (by decide +kernel) (pa_cons (pv 3) pa_nil)) pe_int) pa_nil))))
      (pss_cons (ps_expr (pe_bm PySem.F.plainAttrs_list PySem.F.slot_list_append PySem.F.type_list_append mt_append (pv 3) (pa_cons (pe_slice sl_list (pv 2) (po_some (pv 4)) (po_some (pe_op op_add (pv 4) (pv 5)))) pa_nil)))
      (pss_one (ps_set (i := 4) sc_law_cuts.nd rfl (Or.inl rfl) (pe_op op_add (pv 4) (pv 5))))))))
      (pss_one (ps_ret (pv 3)))))), rfl, ?_⟩
    try dsimp only [cxOf]
    wtm_at "x"
    intro f hf
    wtm_at "x"
    refine x_while (fun m σ H' => ∃ (ts : List Addr) (ps : List Row) (at_ : Nat) (v5 : Option V), σ = [some (.ref a), some (.int k), some (.ref rw_), some (.ref f), some (.int (at_ : Int)), v5] ∧ H' f = some (.lst (ts.map V.ref)) ∧ Ext H H' ∧ Pieces H H' ts ps ∧
        ps.flatten = row.take at_ ∧ ts.length ≤ 2 * at_ + ts.length % 2 ∧ (∀ t, t ∈ ts → t ≠ f) ∧ m = 2 * (row.length - at_) + (1 - ts.length % 2)) _
      ⟨[], [], 0, none, rfl, upd_same, Only'.put0 Only'.refl hf, ⟨rfl, fun i t p h => by simp at h, fun _ h => nomatch h⟩, rfl, by simp, (fun _ h => nomatch h), rfl⟩ ?_
    rintro m σ H' ⟨ts, ps, at_, v5, rfl, hf', e, hP, hfl, hcnt, hne, rfl⟩
    have hrw' := e rw_ _ hrw (by simp)
    wtm_at "x"
    refine ite_d (fun hlt => ?_) fun hge => ?_
    · rw [iV_length] at hlt
      refine ⟨_, fun σ' H'' h => h, ?_⟩
      wtm_at "x"
      intro p1 hp1
      have e1 := e.new (o := .lst [V.int 0, V.int 1, V.int 1, V.int 2, V.int 7, V.int 300]) hp1
      have hf1 := keep (o := .lst [V.int 0, V.int 1, V.int 1, V.int 2, V.int 7, V.int 300]) hf' hp1
      have hrw1 := keep (o := .lst [V.int 0, V.int 1, V.int 1, V.int 2, V.int 7, V.int 300]) hrw' hp1
      have hP1 : Pieces H (upd H' p1 (.lst [V.int 0, V.int 1, V.int 1, V.int 2, V.int 7, V.int 300])) ts ps := hP.ext fun t o _ h => keep h hp1
      have hp1' : (upd H' p1 (.lst [V.int 0, V.int 1, V.int 1, V.int 2, V.int 7, V.int 300])) p1 = some (.lst (iV [0, 1, 1, 2, 7, 300])) := upd_same
      generalize (upd H' p1 (.lst [V.int 0, V.int 1, V.int 1, V.int 2, V.int 7, V.int 300])) = H1 at *
      wtm_at "x"
      refine ⟨a, s, _, rfl, SqL.ext e1 hs, ?_⟩
      have hml := lmix_in s (k + ((ts.map V.ref).length : Int) % 29)
      generalize lmix s (k + ((ts.map V.ref).length : Int) % 29) = nn at *
      have hln : (ts.map V.ref).length = ts.length := List.length_map ..
      wtm_at "x"
      rw [fdiv_pos (show (0 : Int) ≤ 1 + ((ts.map V.ref).length : Int) by omega)]
      wtm_at "x"
      refine x_ixI [0, 1, 1, 2, 7, 300] hp1' (by omega) (by show _ < (6 : Int); omega) fun b hb => ?_
      have hbb : 0 ≤ b ∧ b ≤ 300 := by
        simp only [List.mem_cons, List.not_mem_nil, or_false] at hb
        omega
      wtm_at "x"
      rw [hln]
      obtain ⟨mm, hmm, hmm2, hmm3⟩ : ∃ mm : Nat, (if (ts.length : Int) % 2 > b then (ts.length : Int) % 2 else b) = (mm : Int) ∧ (ts.length % 2 = 1 → 1 ≤ mm) ∧ mm ≤ 300 := by
        refine ⟨(if (ts.length : Int) % 2 > b then (ts.length : Int) % 2 else b).toNat, ?_, ?_, ?_⟩ <;> split <;> omega
      rw [hmm]
      wtm_at "x"
      intro l hl
      have hfl' := keep (o := .lst (cutV (iV row) (some (at_ : Int)) (some ((at_ : Int) + mm)))) hf1 hl
      refine x_nil ?_
      refine x_append hfl' (by rw [hln, sizeLine_eq]; omega) ?_
      wtm_at "x"
      have ec : cutV (iV row) (some (at_ : Int)) (some ((at_ : Int) + mm)) = iV ((row.drop at_).take mm) := by
        rw [cut_both rfl (k := at_ + mm) (by omega)]
        unfold iV
        rw [← List.map_drop, ← List.map_take]
        rw [show at_ + mm - at_ = mm by omega]
      have nlf : l ≠ f := (ne_of_none hf1 hl).symm
      have e2 := (e1.new (o := .lst (cutV (iV row) (some (at_ : Int)) (some ((at_ : Int) + mm)))) hl).put0 (o := .lst (ts.map V.ref ++ [V.ref l])) hf
      refine ⟨_, ?_, ts ++ [l], ps ++ [(row.drop at_).take mm], at_ + mm, _, by rw [Int.natCast_add], by rw [upd_same, List.map_append]; rfl, e2, ?_, ?_, ?_, ?_, rfl⟩
      · rw [List.length_append, List.length_singleton]
        omega
      · refine Pieces.snoc (hP1.ext fun t o ht h => upd_get (hne t ht) (keep h hl)) ?_ (e1.free hl)
        rw [upd_ne nlf, upd_same, ec]
      · rw [List.flatten_append, hfl, List.flatten_singleton, ← List.take_add]
      · rw [List.length_append, List.length_singleton]
        omega
      · intro t ht
        rcases List.mem_append.mp ht with z | z
        · exact hne t z
        · rw [List.mem_singleton.mp z]; exact nlf
    · rw [iV_length] at hge
      wtm_at "x"
      exact q ps ts H' f (by rw [hfl, List.take_of_length_le (by omega)]) e hf hf' hP
theorem ok_law_is_told (T : Tx K mg) : DefOk P w K mg base 3 (He.ga K "_law_is_told") ["_law_found"] (spIsTold K) := by
  have D_law_whole := ok_law_whole (P := P) (w := w) (base := base) T
  have D_law_is_row := ok_law_is_row (P := P) (w := w) (base := base) T
  refine def_ok (N := n_law_is_told) (fn_law_is_told T) sc_law_is_told (fun _ _ _ _ _ _ us hl => match us, hl with | [_], _ => rfl) (fun vs H Q E h => ?_) (fun cdv A outer s H vs Q E hr h => ?_)
  · obtain ⟨tp, r, fv, row, rfl, _⟩ := h
    rfl
  · obtain ⟨tp, r, fv, row, rfl, htp, hrr, hby, hz, hfv, q⟩ := h
    refine ⟨_, [_, _], (pss_cons (ps_if (PW.pt (pw_or (pt_not (pt_val (pe_callB call_isi rfl (f_isinstance T) (by decide +kernel) (pa_cons (pv 0) (pa_cons (pe_bltn (v := .ty "tuple") rfl (f_tuple T) (by decide +kernel) rfl) pa_nil))))) (pw_or (pt_cmpR op_ne (pe_callB call_lenS rfl (f_len T) (by decide +kernel) (pa_cons (pv 0) pa_nil)) pe_int (nomark _)) (pw_or1 (pt_not (pt_val (pe_fn D_law_is_row (g_law_is_row T) (hr.mono (by first | decide | omega)) (fun _ => passE) (pa_cons (pe_ix ix_tup (pv 0) pe_int (fun _ _ => rfl)) pa_nil)))))))) (pss_one (ps_ret pe_bl)) pss_nil)
      (pss_cons (ps_if (pt_cmpR op_isNS (pe_ix ix_tup (pv 0) pe_int (fun _ _ => rfl)) pe_non (nomark _)) (pss_one (ps_ret pe_bl)) pss_nil)
      (pss_one (ps_ret (pe_and (pe_callB call_isi rfl (f_isinstance T) (by decide +kernel) (pa_cons (pe_ix ix_tup (pv 0) pe_int (fun _ _ => rfl)) (pa_cons (pe_bltn (v := .ty "tuple") rfl (f_tuple T) (by decide +kernel) rfl) pa_nil))) (pe_one (pe_callB (cr_all rfl) rfl (f_all T) (by decide +kernel) (pa_cons (pe_lc (own := [("_law_one", 1)]) (g := gName 1) (tt := tYes) rfl sc_law_is_told.nd (pi_tup (pe_slice sl_tup (pe_ix ix_tup (pv 0) pe_int (fun _ _ => rfl)) (po_some pe_int) po_none)) (blkOk_by (own := [("_law_one", 1)]) (N := n_law_is_told) (sc := defScope s_law_is_told) (by decide +kernel)) (fun _ _ _ _ _ => pg_name (i := 1) sc_law_is_told.nd rfl (Or.inl rfl)) (fun _ _ _ _ _ => pts_nil) (fun _ _ _ _ _ => (pe_fn D_law_whole (g_law_whole T) (hr.mono (by first | decide | omega)) (fun _ => passE) (pa_cons (pv 1) pa_nil)))) pa_nil)))))))), rfl, ?_⟩
    try dsimp only [cxOf]
    wtm_at "x"
    refine x_or ?_
    wtm_at "x"
    refine x_isiT (b := true) htp (by decide +kernel) ?_
    wtm_at "x"
    refine iteF ?_
    refine x_or ?_
    wtm_at "x"
    refine ite_nd (fun z => absurd rfl z) fun _ => ?_
    wtm_at "x"
    refine x_ixT (SqT.of htp) (at_of (j := 0) rfl rfl) ?_
    wtm_at "x"
    refine ⟨r, row, rfl, hrr, hby, hz, fun H1 e1 => ?_⟩
    have htp1 := e1 tp _ htp (by simp)
    try refine iteF ?_
    wtm_at "x"
    try refine iteF ?_
    wtm_at "x"
    refine x_ixT (SqT.of htp1) (at_of (j := 1) rfl rfl) ?_
    wtm_at "x"
    rcases hfv with rfl | ⟨t, flt, rfl, ht⟩
    · refine ite_d (fun _ => ?_) fun z => absurd rfl z
      wtm_at "x"
      exact q _ e1
    · refine ite_d (fun z => (nomatch z)) fun _ => ?_
      wtm_at "x"
      refine x_ixT (SqT.of htp1) (at_of (j := 1) rfl rfl) ?_
      have ht1 := e1 t _ ht (by simp)
      wtm_at "x"
      refine x_isiT (b := true) ht1 (by decide +kernel) ?_
      wtm_at "x"
      refine x_ixT (SqT.of htp1) (at_of (j := 1) rfl rfl) ?_
      wtm_at "x"
      obtain ⟨ys, hl1, hys, hy2⟩ := faultV_tail flt
      refine x_slT (SqT.of ht1) (by
        intro z
        have z1 := z.1
        have : HT.sIx (faultV flt).length 0 (some ((1 : Nat) : Int)) = min 1 (faultV flt).length := HT.sIx_nat ..
        have e3 : HT.sIx (faultV flt).length 0 (some 1) = min 1 (faultV flt).length := this
        rw [e3] at z1
        omega) fun l hl => ?_
      have ec : cutV (faultV flt) (some 1) none = iV ys := (cut_from (k := 1) rfl).trans hys
      rw [ec]
      refine x_rLcT (fun _ => V.bl true) (SqT.of upd_same) (by rw [iV_length, sizeLine_eq]; omega) (fun _ => rfl) (fun i x H2 hi e Q' kq => ?_) fun l2 H2 hl2 e h2 => ?_
      · obtain ⟨z, hz, rfl⟩ := iV_get hi
        wtm_at "x"
        refine ⟨z, rfl, ?_⟩
        exact kq _ Only'.refl
      · rw [all_true] at h2
        wtm_at "x"
        refine x_all _ (SqL.of h2) ?_
        rw [rep_all]
        wtm_at "x"
        exact q _ ((e1.new hl).trans e)
end
end Flow

namespace Flow
open PySem PySem.Spec PyProof.Rows L2
/-! ### the laws' calls, with good layers -/
section
variable {K : PySem.W.Frag} {H : Hp} {Q : VK} {E : XK} {lays : List Lay} {row : Row} {r rr : Addr}
theorem x_read (hh : Handed K H r (lays.map rawOf)) (oks : ∀ ly, ly ∈ lays → ly.Ok) (few : lays.length ≤ 8) (hrr : H rr = some (.lst (iV row))) (hby : Bys row) (hlen : (readAll lays row).1.length ≤ 16777216)
    (q : ∀ (H' : Hp) (tp r : Addr) (fv : V), Ext H H' → H tp = none → H r = none → H' tp = some (.tup [.ref r, fv]) → H' r = some (.lst (iV (readAll lays row).1)) → FltAt H H' fv (readAll lays row).2 → Q (.ref tp) H') : spRead K [.ref r, .ref rr] H Q E := by
  refine ⟨r, rr, lays.map rawOf, row, rfl, hh, hrr, hby, fun lays2 el oks2 few2 => ?_, fun hg => ?_⟩
  · have e := raw_inj el.symm
    subst e
    exact ⟨hlen, q⟩
  · rw [good_of_lays oks few] at hg
    cases hg
theorem x_mkReader {Q : Addr → Hp → Prop} (hh : Handed K H r (lays.map rawOf)) (oks : ∀ ly, ly ∈ lays → ly.Ok) (few : lays.length ≤ 8)
    (q : ∀ (H1 : Hp) (x dx c : Addr) (ps : List (Addr × Addr)), ReaderAt K H1 x c dx ps (lays.reverse.map newR) → H x = none → H c = none → (∀ y, y ∈ flat ps → H y = none) → Ext H H1 → Q x H1) :
    ∀ x dx, H x = none → H dx = none → dx ≠ x → spReaderInit K (.ref x :: [.ref r]) (upd (upd H dx (.own x)) x (.ins (He.ga K "Reader") dx [])) (fun v H2 => v = .non ∧ Q x H2) E := by
  intro x dx nx ndx ne
  have e0 : Ext H (upd (upd H dx (.own x)) x (.ins (He.ga K "Reader") dx [])) := (Only'.put0 Only'.refl ndx).put0 nx
  refine ⟨x, dx, r, lays.map rawOf, rfl, upd_same, by rw [upd_ne ne, upd_same], hh.ext e0, fun lays2 el oks2 few2 H1 c ps hW hc hfr ho => ⟨rfl, ?_⟩, fun hg => ?_⟩
  · have e := raw_inj el.symm
    subst e
    refine q H1 x dx c ps hW nx (upd_none (upd_none hc).2).2 (fun y hy => (upd_none (upd_none (hfr y hy)).2).2) ⟨fun b u hb _ => ?_, fun b u hb => ?_⟩
    · exact ho b u (e0 b u hb (by simp)) (by simp; exact ne_of_none hb nx)
    · obtain ⟨u1, h1⟩ := e0.more b u hb
      exact ho.more b u1 h1
  · rw [good_of_lays oks few] at hg
    cases hg
theorem ReaderAt.ext {H' : Hp} {p c dx : Addr} {ps : List (Addr × Addr)} {ss : List RSt} (w : ReaderAt K H p c dx ps ss) {Z : List Addr} (e : Only' Z H H') (h1 : p ∉ Z) (h2 : c ∉ Z) (h3 : ∀ x, x ∈ flat ps → x ∉ Z) : ReaderAt K H' p c dx ps ss :=
  ⟨e p _ w.ob h1, e c _ w.cl h2, w.good.ext (RAt_parts K) e h3, w.np, w.nc, w.ok, w.few⟩
theorem ReaderAt.ext0 {H' : Hp} {p c dx : Addr} {ps : List (Addr × Addr)} {ss : List RSt} (w : ReaderAt K H p c dx ps ss) (e : Ext H H') : ReaderAt K H' p c dx ps ss := w.ext e (by simp) (by simp) (by simp)
theorem WriterAt.ext0 {H' : Hp} {p c : Addr} {ps : List (Addr × Addr)} {ss : List WSt} (w : WriterAt K H p c ps ss) (e : Ext H H') : WriterAt K H' p c ps ss := w.ext e (by simp) (by simp) (by simp)
theorem ReaderAt.out {p c dx f : Addr} {ps : List (Addr × Addr)} {ss : List RSt} (w : ReaderAt K H p c dx ps ss) (h : H f = none) : f ∉ flat ps := fun z => by
  obtain ⟨o, e⟩ := w.good.trk (RAt_parts K) z
  rw [h] at e
  cases e
theorem WriterAt.out {p c f : Addr} {ps : List (Addr × Addr)} {ss : List WSt} (w : WriterAt K H p c ps ss) (h : H f = none) : f ∉ flat ps := fun z => by
  obtain ⟨o, e⟩ := w.good.trk (WAt_parts K) z
  rw [h] at e
  cases e
/-- what stood when the parts were made is none of them -/
theorem old_out {f : Addr} {o : HO} {ps : List (Addr × Addr)} (h : H f = some o) (n : ∀ y, y ∈ flat ps → H y = none) : f ∉ flat ps := fun z => by
  rw [n f z] at h
  cases h
theorem getD_at {lays : List Lay} {i : Nat} (h : i < lays.length) : lays[i]? = some (lays.getD i .front) := by
  rw [List.getElem?_eq_getElem h]
  simp [List.getD, h]
/-- what stands elsewhere stands -/
theorem ext_of {H' : Hp} {Z : List Addr} (o : Only' Z H H') (n : ∀ y, y ∈ Z → H y = none) : Ext H H' := ⟨fun b u hb _ => o b u hb fun z => (by
  rw [n b z] at hb
  cases hb), o.more⟩
theorem made_at {H0 : Hp} {ts : List Addr} {i : Nat} {x : V} (m : Made K H0 H ts lays) (h : (ts.map V.ref)[i]? = some x) : ∃ t, x = V.ref t ∧ i < lays.length ∧ H t = some (.tup (layV (lays.getD i .front))) := by
  rw [List.getElem?_map] at h
  cases e : ts[i]? with
  | none => rw [e] at h; cases h
  | some t =>
    rw [e] at h
    have hi : i < lays.length := by
      rw [← m.len]
      exact (List.getElem?_eq_some_iff.mp e).1
    exact ⟨t, (Option.some.inj h).symm, hi, m.at_ i t _ e (getD_at hi)⟩
theorem pieces_get {H0 : Hp} {ts : List Addr} {ps : List Row} {i : Nat} {x : V} (m : Pieces H0 H ts ps) (h : (ts.map V.ref)[i]? = some x) : ∃ t p, x = V.ref t ∧ t ∈ ts ∧ ps[i]? = some p ∧ H t = some (.lst (iV p)) := by
  rw [List.getElem?_map] at h
  cases e : ts[i]? with
  | none => rw [e] at h; cases h
  | some t =>
    rw [e] at h
    have hi : i < ps.length := by
      rw [← m.len]
      exact (List.getElem?_eq_some_iff.mp e).1
    have hp := List.getElem?_eq_getElem hi
    exact ⟨t, ps[i], (Option.some.inj h).symm, List.mem_of_getElem? e, hp, m.at_ i t _ e hp⟩
theorem bys_piece {ps : List Row} {i : Nat} {p : Row} (h : Bys ps.flatten) (hp : ps[i]? = some p) : Bys p := fun x hx => h x (List.mem_flatten.mpr ⟨p, List.mem_of_getElem? hp, hx⟩)
theorem wthru_nil : ∀ ss : List WSt, wthru ss [] = ([], ss)
  | [] => rfl
  | s :: ss => by
    show ((wthru ss []).1, s :: (wthru ss []).2) = _
    rw [wthru_nil ss]
theorem track {H1 H2 : Hp} {A Z : List Addr} (o : Only' Z H H1) (old : ∀ x, x ∈ A → x ∈ Z ∨ H x = none) (o2 : Only' A H1 H2) : Only' Z H H2 := ⟨fun b u hb n => o2 b u (o b u hb n) fun h => (by
  rcases old b h with g | g
  · exact n g
  · rw [hb] at g; cases g), fun b u hb => by
  obtain ⟨u1, h1⟩ := o.more b u hb
  exact o2.more b u1 h1⟩
theorem track_old {H1 : Hp} {A A' Z : List Addr} (o : Only' Z H H1) (old : ∀ x, x ∈ A → x ∈ Z ∨ H x = none) (h : ∀ x, x ∈ A' → x ∈ A ∨ H1 x = none) : ∀ x, x ∈ A' → x ∈ Z ∨ H x = none := fun x hx => by
  rcases h x hx with g | g
  · exact old x g
  · exact Or.inr (o.free g)
/-- a reader that is used once -/
theorem x_take0 {z cz dz l : Addr} {zs : List (Addr × Addr)} {ss : List RSt} (hR : ReaderAt K H z cz dz zs ss) (hl : H l = some (.lst (iV row))) (nl : l ∉ flat zs) (hby : Bys row) (hlen : (rrow ss row).1.length ≤ 16777216)
    (q : ∀ (H' : Hp) (tp r : Addr) (fv : V), Only' (z :: flat zs) H H' → H tp = none → H r = none → H' tp = some (.tup [.ref r, fv]) → H' r = some (.lst (iV (rrow ss row).1)) → FltAt H H' fv (rrow ss row).2.2 → Q (.ref tp) H') : spReaderTakeB K [.ref z, .ref l] H Q E := by
  refine Or.inr ⟨z, cz, dz, l, zs, ss, row, rfl, hR, SqL.of hl, nl, hby, hlen, fun hno H2 tp r qs2 st2 hR2 htp hr htp0 hr0 nr2 ntp2 => ?_, fun flt hflt H2 tp r t hF htp hr htp0 hr0 ht0 o2 => ?_⟩
  · refine q H2 tp r .non (st2.only.mono fun x hx => List.mem_cons_of_mem _ (by simpa using hx)) htp0 hr0 htp hr ?_
    rw [hno]
    rfl
  · refine q H2 tp r (.ref t) o2 htp0 hr0 htp hr ?_
    rw [hflt]
    exact ⟨t, rfl, ht0, hF.fl⟩
theorem FltAt.or {H' : Hp} {fv : V} {fo : Option Fault} (h : FltAt H H' fv fo) : fv = .non ∨ ∃ (t : Addr) (flt : Fault), fv = .ref t ∧ H' t = some (.tup (faultV flt)) := by
  cases fo with
  | none => exact Or.inl h
  | some flt =>
    obtain ⟨t, a, _, c⟩ := h
    exact Or.inr ⟨t, flt, a, c⟩
theorem ite_same {b : Bool} {t1 t2 : TS} {D : Ends} {σ : L2.St} (J : L2.St → Hp → Prop) (hJ : ∀ σ' H', J σ' H' → D.nx σ' H') (h : ∀ N : L2.St → Hp → Prop, (∀ σ' H', J σ' H' → N σ' H') → if b = true then t1 { D with nx := N } σ H else t2 { D with nx := N } σ H) :
    if b = true then t1 D σ H else t2 D σ H := h D.nx hJ
theorem seq_cut2 {s1 s2 rest : TS} {D : Ends} {σ : L2.St} (J : L2.St → Hp → Prop) (h2 : ∀ σ' H', J σ' H' → rest D σ' H') (h1 : ∀ R : TS, (∀ σ' H', J σ' H' → R D σ' H') → tSeq s1 (tSeq s2 R) D σ H) : tSeq s1 (tSeq s2 rest) D σ H := h1 rest h2
theorem seq_cut5 {s1 s2 s3 s4 s5 rest : TS} {D : Ends} {σ : L2.St} (J : L2.St → Hp → Prop) (h2 : ∀ σ' H', J σ' H' → rest D σ' H') (h1 : ∀ R : TS, (∀ σ' H', J σ' H' → R D σ' H') → tSeq s1 (tSeq s2 (tSeq s3 (tSeq s4 (tSeq s5 R)))) D σ H) : tSeq s1 (tSeq s2 (tSeq s3 (tSeq s4 (tSeq s5 rest)))) D σ H := h1 rest h2
/-! ### what a law holds: its script, layers, rows -/
structure LB (K : PySem.W.Frag) (H0 H : Hp) (a r rr st : Addr) (s : Row) (ts : List Addr) (lays : List Lay) (row str : Row) : Prop where
  hs : SqL K H a (iV s)
  hr : H r = some (.lst (ts.map V.ref))
  md : Made K H0 H ts lays
  hrr : H rr = some (.lst (iV row))
  hst : H st = some (.lst (iV str))
theorem LB.ext {H0 H' : Hp} {a r rr st : Addr} {s : Row} {ts : List Addr} {lays : List Lay} {row str : Row} (b : LB K H0 H a r rr st s ts lays row str) (e : Ext H H') : LB K H0 H' a r rr st s ts lays row str :=
  ⟨SqL.ext e b.hs, e r _ b.hr (by simp), b.md.ext e, e rr _ b.hrr (by simp), e st _ b.hst (by simp)⟩
/-! ### lists of layers and of words -/
theorem range_lays {α : Type} (f : Lay → α) : ∀ lays : List Lay, (List.range lays.length).map (fun i => f (lays.getD i .front)) = lays.map f := fun lays => by
  refine List.ext_getElem? fun i => ?_
  rw [List.getElem?_map, List.getElem?_map]
  by_cases h : i < lays.length
  · rw [List.getElem?_range h, List.getElem?_eq_getElem h]
    simp [List.getD, h]
  · rw [List.getElem?_eq_none (by rw [List.length_range]; omega), List.getElem?_eq_none (by omega)]
    rfl
def wordsV (lays : List Lay) : List V := lays.map fun ly => V.str (lkind ly)
def wordsD (lays : List Lay) : PyData := .list (lays.map fun ly => .str (lkind ly))
theorem lk_lkind (ly : Lay) : layD.lk ly = lkind ly := by cases ly <;> rfl
theorem words_lay : ∀ lays : List Lay, PyData.canLayAll0 (lays.map fun ly => PyData.str (lkind ly)) = true
  | [] => by simp [PyData.canLayAll0]
  | x :: r => by
    have h := lk_ok x
    rw [lk_lkind] at h
    simp [PyData.canLayAll0, PyData.canLay0, words_lay r, h]
theorem words_depth : ∀ lays : List Lay, PyData.depthAll (lays.map fun ly => PyData.str (lkind ly)) = 0
  | [] => by simp [PyData.depthAll]
  | x :: r => by simp [PyData.depthAll, PyData.depth, words_depth r]
theorem words_shaped (lays : List Lay) : SeqAt.shaped (wordsD lays) = true := shaped_of (by simp only [wordsD, PyData.canLay0]; exact words_lay lays) (by simp only [wordsD, PyData.depth]; rw [words_depth]; decide)
theorem words_refl : ∀ lays : List Lay, PyData.eqvAll (lays.map fun ly => PyData.str (lkind ly)) (lays.map fun ly => PyData.str (lkind ly)) = true
  | [] => by simp [PyData.eqvAll]
  | x :: r => by simp [PyData.eqvAll, PyData.eqv, words_refl r]
theorem words_eqv (lays : List Lay) : PyData.eqv (wordsD lays) (wordsD lays) = true := by
  simp only [wordsD, PyData.eqv]
  exact words_refl lays
theorem dp_words {a : Addr} (h : SqL K H a (wordsV lays)) : Dp K H (.ref a) (wordsD lays) := by
  refine .lst h ?_
  unfold wordsV
  clear h
  induction lays with
  | nil => exact .nil
  | cons x l ih => exact .cons (.str _) ih
/-! ### what is told, as data -/
def fltD : Option Fault → PyData
  | none => .none
  | some (.wrong a b) => .tuple [.str "wrong", .int a, .int b]
  | some (.cut a) => .tuple [.str "cut", .int a]
def toldD (row : Row) (fo : Option Fault) : PyData := .tuple [rowD row, fltD fo]
theorem flt_lay (fo : Option Fault) : (fltD fo).canLay0 = true := by
  cases fo with
  | none => simp [fltD, PyData.canLay0]
  | some f => cases f <;> (simp only [fltD, PyData.canLay0, PyData.canLayAll0]; decide +kernel)
theorem flt_depth (fo : Option Fault) : (fltD fo).depth ≤ 1 := by
  cases fo with
  | none => simp [fltD, PyData.depth]
  | some f => cases f <;> simp [fltD, PyData.depth, PyData.depthAll]
theorem told_shaped (row : Row) (fo : Option Fault) : SeqAt.shaped (toldD row fo) = true := by
  refine shaped_of ?_ ?_
  · simp only [toldD, PyData.canLay0, PyData.canLayAll0, flt_lay, rowD, lay_ints]
    rfl
  · have h := flt_depth fo
    simp only [toldD, PyData.depth, PyData.depthAll, rowD, depth_ints]
    omega
theorem flt_eqv (a b : Option Fault) : PyData.eqv (fltD a) (fltD b) = decide (a = b) := by
  cases a with
  | none =>
    cases b with
    | none => simp [fltD, PyData.eqv]
    | some f => cases f <;> simp [fltD, PyData.eqv]
  | some f =>
    cases b with
    | none => cases f <;> simp [fltD, PyData.eqv]
    | some g =>
      cases f with
      | wrong p q =>
        cases g with
        | wrong p' q' =>
          have e : PyData.eqv (fltD (some (.wrong p q))) (fltD (some (.wrong p' q'))) = ((p == p') && (q == q')) := by simp [fltD, PyData.eqv, PyData.eqvAll]
          rw [e]
          by_cases h1 : p = p' <;> by_cases h2 : q = q' <;> simp [h1, h2]
        | cut p' => simp [fltD, PyData.eqv, PyData.eqvAll]
      | cut p =>
        cases g with
        | wrong p' q' => simp [fltD, PyData.eqv, PyData.eqvAll]
        | cut p' =>
          have e : PyData.eqv (fltD (some (.cut p))) (fltD (some (.cut p'))) = (p == p') := by simp [fltD, PyData.eqv, PyData.eqvAll]
          rw [e]
          by_cases h1 : p = p' <;> simp [h1]
theorem told_eqv (r r' : Row) (f f' : Option Fault) : PyData.eqv (toldD r f) (toldD r' f') = (decide (r = r') && decide (f = f')) := by
  have e : PyData.eqv (toldD r f) (toldD r' f') = (PyData.eqv (rowD r) (rowD r') && PyData.eqv (fltD f) (fltD f')) := by simp [toldD, PyData.eqv, PyData.eqvAll]
  rw [e, row_eqv, flt_eqv]
theorem dp_flt {H0 : Hp} {fv : V} {fo : Option Fault} (h : FltAt H0 H fv fo) : Dp K H fv (fltD fo) := by
  cases fo with
  | none =>
    have e : fv = .non := h
    subst e
    exact .non
  | some f =>
    obtain ⟨t, rfl, _, ht⟩ := h
    cases f with
    | wrong a b => exact .tup (SqT.of ht) (.cons (.str _) (.cons (.int _) (.cons (.int _) .nil)))
    | cut a => exact .tup (SqT.of ht) (.cons (.str _) (.cons (.int _) .nil))
theorem dp_told {H0 : Hp} {tp l : Addr} {fv : V} {row : Row} {fo : Option Fault} (h : H tp = some (.tup [.ref l, fv])) (hl : H l = some (.lst (iV row))) (hf : FltAt H0 H fv fo) : Dp K H (.ref tp) (toldD row fo) :=
  .tup (SqT.of h) (.cons (dp_row (SqL.of hl)) (.cons (dp_flt hf) .nil))
end
end Flow

namespace Flow
open PySem PySem.Spec PyProof.Rows L2
local macro_rules | `(tactic| wtm_at "x1") => `(tactic| first
  | (with_reducible refine Flow.x_ifT ?_))
/-! ### the law's own reading: all layers -/
def FtAt (H : Hp) (t : Addr) (f : Row × Fault) : Prop := ∃ u w, H t = some (.tup [.ref u, .ref w]) ∧ H u = some (.tup (iV f.1)) ∧ H w = some (.tup (faultV f.2))
structure FtsIn (H : Hp) (ts : List Addr) (fs : List (Row × Fault)) : Prop where
  len : ts.length = fs.length
  at_ : ∀ (i : Nat) (t : Addr) (x : Row × Fault), ts[i]? = some t → fs[i]? = some x → FtAt H t x
theorem FtsIn.keep {H H' : Hp} {ts : List Addr} {fs : List (Row × Fault)} (m : FtsIn H ts fs) (e : ∀ a vs, H a = some (.tup vs) → H' a = some (.tup vs)) : FtsIn H' ts fs := ⟨m.len, fun i t x h1 h2 => by
  obtain ⟨u, w, a, b, c⟩ := m.at_ i t x h1 h2
  exact ⟨u, w, e _ _ a, e _ _ b, e _ _ c⟩⟩
theorem FtsIn.nil {H : Hp} : FtsIn H [] [] := ⟨rfl, fun i t r h => by simp at h⟩
theorem FtsIn.ext {H H' : Hp} {ts : List Addr} {fs : List (Row × Fault)} (m : FtsIn H ts fs) (e : Ext H H') : FtsIn H' ts fs := m.keep fun a vs h => e a _ h (by simp)
theorem FtsIn.snoc {H : Hp} {ts : List Addr} {xs : List (Row × Fault)} {t : Addr} {x : Row × Fault} (m : FtsIn H ts xs) (h : FtAt H t x) : FtsIn H (ts ++ [t]) (xs ++ [x]) := by
  refine ⟨by rw [List.length_append, List.length_append, m.len]; rfl, fun i u y h1 h2 => ?_⟩
  by_cases hi : i < ts.length
  · rw [List.getElem?_append_left hi] at h1
    rw [List.getElem?_append_left (by rw [← m.len]; exact hi)] at h2
    exact m.at_ i u y h1 h2
  · rw [List.getElem?_append_right (by omega)] at h1
    rw [List.getElem?_append_right (by rw [← m.len]; omega), ← m.len] at h2
    cases hd : i - ts.length with
    | zero =>
      rw [hd] at h1 h2
      cases h1
      cases h2
      exact h
    | succ j =>
      rw [hd] at h1
      cases h1
/-- faults with their times, as data -/
def ftD (f : Row × Fault) : PyData := tfD f.1 (fltD (some f.2))
section
variable {K : PySem.W.Frag} {H : Hp}
theorem dp_ft {t : Addr} {f : Row × Fault} (h : FtAt H t f) : Dp K H (.ref t) (ftD f) := by
  obtain ⟨u, w, a, b, c⟩ := h
  exact .tup (SqT.of a) (.cons (.tup (SqT.of b) (dp_ints _)) (.cons (dp_flt (H0 := fun _ => none) (fo := some f.2) ⟨w, rfl, rfl, c⟩) .nil))
theorem dp_fts : ∀ {ts : List Addr} {fs : List (Row × Fault)}, FtsIn H ts fs → DpAll K H (ts.map V.ref) (fs.map ftD)
  | [], [], _ => .nil
  | [], _ :: _, m => by have := m.len; simp at this
  | _ :: _, [], m => by have := m.len; simp at this
  | t :: ts, f :: fs, m => .cons (dp_ft (m.at_ 0 t f rfl rfl)) (dp_fts (ts := ts) (fs := fs) ⟨by simpa using m.len, fun i u x h1 h2 => m.at_ (i + 1) u x h1 h2⟩)
end
theorem alike_flt (a b : Fault) : PySem.W.alike (fltD (some a)) (fltD (some b)) = true := by
  cases a <;> cases b <;> simp [fltD, PySem.W.alike, PySem.W.alikeAll]
theorem alike_ft (a b : Row × Fault) : PySem.W.alike (ftD a) (ftD b) = true := by
  have h1 : PySem.W.alike (timD a.1) (timD b.1) = true := by
    simp only [timD, PySem.W.alike]
    exact alike_ints _ _
  simp [ftD, tfD, PySem.W.alike, PySem.W.alikeAll, h1, alike_flt]
theorem alike_fts (fs : List (Row × Fault)) : PySem.W.AlikeAll (fs.map ftD) := by
  refine ⟨fun x hx y hy => ?_, fun x hx => ?_⟩
  · obtain ⟨a, _, rfl⟩ := List.mem_map.mp hx
    obtain ⟨b, _, rfl⟩ := List.mem_map.mp hy
    exact alike_ft a b
  · obtain ⟨a, _, rfl⟩ := List.mem_map.mp hx
    exact fun z => nomatch z
theorem depth_ft (a : Row × Fault) : (ftD a).depth ≤ 2 := by
  have h := flt_depth (some a.2)
  simp only [ftD, tfD, timD, PyData.depth, PyData.depthAll, depth_ints]
  omega
theorem depth_fts : ∀ fs : List (Row × Fault), PyData.depthAll (fs.map ftD) ≤ 2
  | [] => by simp [PyData.depthAll]
  | a :: fs => by
    have h1 := depth_ft a
    have h2 := depth_fts fs
    simp only [List.map_cons, PyData.depthAll]
    omega
def uOf (H : Hp) (t : Addr) : Addr := match H t with
  | some (.tup [_, .ref u]) => u
  | _ => 0
theorem uOf_at {H : Hp} {t : Addr} {x : Int × Row} (h : TimAt H t x) : H t = some (.tup [.int x.1, .ref (uOf H t)]) ∧ H (uOf H t) = some (.tup (iV x.2)) := by
  obtain ⟨u, h1, h2⟩ := h
  have e : uOf H t = u := by
    unfold uOf
    rw [h1]
  rw [e]
  exact ⟨h1, h2⟩
theorem tim_get {H : Hp} {ts : List Addr} {told : TRow} (m : TimIn H ts told) {n : Nat} {x : V} (h : (ts.map V.ref)[n]? = some x) : ∃ t y, x = V.ref t ∧ ts[n]? = some t ∧ told[n]? = some y ∧ TimAt H t y := by
  rw [List.getElem?_map] at h
  cases ht : ts[n]? with
  | none => rw [ht] at h; cases h
  | some t =>
    rw [ht] at h
    have hn : n < told.length := by
      rw [← m.len]
      exact (List.getElem?_eq_some_iff.mp ht).1
    exact ⟨t, _, (Option.some.inj h).symm, rfl, List.getElem?_eq_getElem hn, m.at_ n t _ ht (List.getElem?_eq_getElem hn)⟩
theorem tim_tms {H : Hp} {ts : List Addr} {told : TRow} (m : TimIn H ts told) : TmsIn H (ts.map (uOf H)) (told.map (·.2)) := by
  refine ⟨by rw [List.length_map, List.length_map, m.len], fun i u x h1 h2 => ?_⟩
  rw [List.getElem?_map] at h1 h2
  cases ht : ts[i]? with
  | none => rw [ht] at h1; cases h1
  | some t =>
    cases hy : told[i]? with
    | none => rw [hy] at h2; cases h2
    | some y =>
      rw [ht] at h1
      rw [hy] at h2
      cases h1
      cases h2
      exact (uOf_at (m.at_ i t y ht hy)).2
theorem gI_map1 {told : TRow} {n : Nat} {y : Int × Row} (h : told[n]? = some y) : gI (told.map (·.1)) (n : Int) = y.1 := gI_nat (by rw [List.getElem?_map, h]; rfl)
theorem x_gTup2 {K : PySem.W.Frag} {H : Hp} {σ : L2.St} {i j : Nat} {a : Addr} {x y : V} {Q : L2.St → Hp → Prop} (h : SqT K H a [x, y]) (q : Q ((σ.set i (some x)).set j (some y)) H) : gTup K 2 (gCons (gName i) (gCons (gName j) gNil)) (.ref a) σ H Q :=
  ⟨a, [x, y], rfl, h, rfl, x, [y], rfl, y, [], rfl, rfl, q⟩
theorem x_catT0 {K : PySem.W.Frag} {H : Hp} {p a : Addr} {xs : List V} {Q : VK} (h : SqT K H p xs) (h2 : SqT K H a []) (hx : xs ≠ []) (hz : xs.length ≤ sizeLine) (q : Q (.ref p) H) : rCatT K (.ref p) (.ref a) H Q :=
  ⟨p, a, xs, [], rfl, rfl, h, h2, hx, by simpa using hz, fun _ => q, fun e => absurd rfl e⟩
theorem seq_cut1 {s1 rest : TS} {D : Ends} {σ : L2.St} {H : Hp} (J : L2.St → Hp → Prop) (h2 : ∀ σ' H', J σ' H' → rest D σ' H') (h1 : ∀ R : TS, (∀ σ' H', J σ' H' → R D σ' H') → tSeq s1 R D σ H) : tSeq s1 rest D σ H := h1 rest h2
theorem fts_empty {H : Hp} {ts : List Addr} {fs : List (Row × Fault)} (m : FtsIn H ts fs) : (ts.map V.ref).isEmpty = fs.isEmpty := by
  have := m.len
  cases ts <;> cases fs <;> simp_all
/-- what the law's own reading holds between two layers -/
structure LA (H0 : Hp) (fl : Addr) (H : Hp) (told : TRow) (faults : List (Row × Fault)) (tl : Addr) (ts fts : List Addr) : Prop where
  ext : Ext H0 H
  tl_ : H tl = some (.lst (ts.map V.ref))
  tim : TimIn H ts told
  fl_ : H fl = some (.lst (fts.map V.ref))
  fts_ : FtsIn H fts faults
  ne : tl ≠ fl
theorem LA.to {H0 H H' : Hp} {fl tl : Addr} {told : TRow} {faults : List (Row × Fault)} {ts fts : List Addr} (c : LA H0 fl H told faults tl ts fts) (e : Ext H H') : LA H0 fl H' told faults tl ts fts :=
  ⟨c.ext.trans e, e tl _ c.tl_ (by simp), c.tim.ext e, e fl _ c.fl_ (by simp), c.fts_.ext e, c.ne⟩
def spLawAll (K : PySem.W.Frag) : Sp := fun vs H Q _ => ∃ (la ra : Addr) (lts : List Addr) (lays : List Lay) (row : Row), vs = [.ref la, .ref ra] ∧ SqL K H la (lts.map V.ref) ∧ lts.length = lays.length ∧
  (∀ (i : Nat) (t : Addr) (ly : Lay), lts[i]? = some t → lays[i]? = some ly → SqT K H t (layV ly)) ∧ (∀ ly, ly ∈ lays → ly.Ok) ∧ lays.length ≤ 8 ∧ SqL K H ra (iV row) ∧ Bys row ∧ row.length ≤ 30000 ∧
  (∀ H', Ext H H' → Q .non H') ∧
  ((readAll lays row).1.length ≤ 30000 → ∀ H' tp r fv, Ext H H' → H' tp = some (.tup [.ref r, fv]) → H' r = some (.lst (iV (readAll lays row).1)) → FltAt (fun _ => none) H' fv (readAll lays row).2 → Q (.ref tp) H')
section
variable {P : Program} {w : World} {K : PySem.W.Frag} {mg : Str → Option Value} {base : Heap}
theorem ok_law_all (T : Tx K mg) : DefOk P w K mg base 4 (He.ga K "_law_all") ["_law_layers_here", "_law_row_here"] (spLawAll K) := by
  have D_law_read := ok_law_read (P := P) (w := w) (base := base) T
  refine def_ok (N := n_law_all) (fn_law_all T) sc_law_all (fun _ _ _ _ _ _ us hl => match us, hl with | [_, _], _ => rfl) (fun vs H Q E h => ?_) (fun cdv A outer s H vs Q E hr h => ?_)
  · obtain ⟨la, ra, lts, lays, row, rfl, _⟩ := h
    rfl
  · obtain ⟨la, ra, lts, lays, row, rfl, hla, hll, hlt, oks, few, hra, hby, hz, qn, q⟩ := h
    refine ⟨_, [_, _, _, _, _, _, _, _, _, _, _, _], (pss_cons (ps_setLc (i := 2) (own := [("_law_k", 9)]) (g := gName 9) (tt := tYes) rfl sc_law_all.nd rfl rfl (sw_true rfl rfl rfl (by decide +kernel)) (pi_range1 rfl (f_range T) (pa_cons (pe_callB call_lenS rfl (f_len T) (by decide +kernel) (pa_cons (pv 1) pa_nil)) pa_nil)) (blkOk_by (own := [("_law_k", 9)]) (N := n_law_all) (sc := defScope s_law_all) (by decide +kernel)) (fun _ _ _ _ _ => pg_name (i := 9) sc_law_all.nd rfl (Or.inl rfl)) (fun _ _ _ _ _ => pts_nil) (fun _ _ _ _ _ => (pe_tup (pa_cons (pe_ix (ix_listK K rfl) (pv 1) (pv 9) (fun _ _ => rfl)) (pa_cons (pe_tup (pa_cons (pv 9) pa_nil)) pa_nil)))))
      (pss_cons (ps_set (i := 3) sc_law_all.nd rfl (Or.inl rfl) (pe_lst pa_nil))
      (pss_cons (ps_for (passes_of rfl) rfl (pi_revR rfl (f_reversed T) (prg_1 rfl (f_range T) (pe_callB call_lenS rfl (f_len T) (by decide +kernel) (pa_cons (pv 0) pa_nil)))) (pg_name (i := 4) sc_law_all.nd rfl (Or.inl rfl)) (pss_cons (ps_asg (pe_fn D_law_read (g_law_read T) (hr.mono (by first | decide | omega)) (fun _ => passE) (pa_cons (pe_ix ix_list (pv 0) (pv 4) (fun _ _ => rfl)) (pa_cons (pe_lc (own := [("_law_one", 10)]) (g := gName 10) (tt := tYes) rfl sc_law_all.nd (pi_list (pv 2)) (blkOk_by (own := [("_law_one", 10)]) (N := n_law_all) (sc := defScope s_law_all) (by decide +kernel)) (fun _ _ _ _ _ => pg_name (i := 10) sc_law_all.nd rfl (Or.inl rfl)) (fun _ _ _ _ _ => pts_nil) (fun _ _ _ _ _ => (pe_ix (ix_tupK K rfl) (pv 10) pe_int (fun _ _ => rfl)))) pa_nil))) (pg_tup (by rfl) (pgs_cons (pg_name (i := 5) sc_law_all.nd rfl (Or.inr rfl)) (pgs_cons (pg_name (i := 6) sc_law_all.nd rfl (Or.inl rfl)) pgs_nil))))
      (pss_cons (ps_set (i := 7) sc_law_all.nd rfl (Or.inr rfl) (pe_op op_cat (pe_lc (own := [("_law_one", 10)]) (g := gName 10) (tt := tYes) rfl sc_law_all.nd (pi_list (pv 2)) (blkOk_by (own := [("_law_one", 10)]) (N := n_law_all) (sc := defScope s_law_all) (by decide +kernel)) (fun _ _ _ _ _ => pg_name (i := 10) sc_law_all.nd rfl (Or.inl rfl)) (fun _ _ _ _ _ => pts_nil) (fun _ _ _ _ _ => (pe_ix (ix_tupK K rfl) (pv 10) pe_int (fun _ _ => rfl)))) (pe_lst (pa_cons (pe_tup (pa_cons (pe_op op_sub (pe_op op_sub (pe_op op_add (pe_callB call_lenS rfl (f_len T) (by decide +kernel) (pa_cons (pv 1) pa_nil)) (pe_callB call_lenS rfl (f_len T) (by decide +kernel) (pa_cons (pv 0) pa_nil))) pe_int) (pv 4)) pa_nil)) pa_nil))))
      (pss_cons (ps_set (i := 8) sc_law_all.nd rfl (Or.inl rfl) (pe_lst pa_nil))
      (pss_cons (ps_for (passes_of rfl) rfl (pi_range1 rfl (f_range T) (pa_cons (pe_callB call_lenS rfl (f_len T) (by decide +kernel) (pa_cons (pv 5) pa_nil)) pa_nil)) (pg_name (i := 9) sc_law_all.nd rfl (Or.inr rfl)) (pss_one (ps_if (PW.pt (pw_or (pt_cmpR op_lt (pv 9) (pe_callB call_lenS rfl (f_len T) (by decide +kernel) (pa_cons (pv 2) pa_nil)) (nomark _)) (pw_or1 (pt_not (pt_truthS (pv 3) (by intro _; rfl)))))) (pss_one (ps_expr (pe_bm PySem.F.plainAttrs_list PySem.F.slot_list_extend PySem.F.type_list_extend mt_extend (pv 8) (pa_cons (pe_lc (own := [("_law_i", 11)]) (g := gName 11) (tt := tYes) rfl sc_law_all.nd (pi_range1 rfl (f_range T) (pa_cons (pe_callB call_lenS rfl (f_len T) (by decide +kernel) (pa_cons (pe_ix ix_list (pv 5) (pv 9) (fun _ _ => rfl)) pa_nil)) pa_nil)) (blkOk_by (own := [("_law_i", 11)]) (N := n_law_all) (sc := defScope s_law_all) (by decide +kernel)) (fun _ _ _ _ _ => pg_name (i := 11) sc_law_all.nd rfl (Or.inl rfl)) (fun _ _ _ _ _ => pts_nil) (fun _ _ _ _ _ => (pe_tup (pa_cons (pe_ix (ix_listK K rfl) (pe_ix (ix_listK K rfl) (pv 5) (pv 9) (fun _ _ => rfl)) (pv 11) (fun _ _ => rfl)) (pa_cons (pe_op (op_catTK K rfl) (pe_ix (ix_listK K rfl) (pv 7) (pv 9) (fun _ _ => rfl)) (pe_tup (pa_cons (pv 11) pa_nil))) pa_nil))))) pa_nil)))) pss_nil)))
      (pss_cons (ps_if (pt_cmpR op_gt (pe_callB call_lenS rfl (f_len T) (by decide +kernel) (pa_cons (pv 8) pa_nil)) pe_int (nomark _)) (pss_one (ps_ret pe_non)) pss_nil)
      (pss_cons (ps_if (PW.pt (pw_and (pt_cmpR op_notNS (pv 6) pe_non (nomark _)) (pw_and1 (PW.pt (pw_or (PW.pt (pw_and (pt_cmpR op_eq (pe_ix ix_tup (pv 6) pe_int (fun _ _ => rfl)) pe_str (nomark _)) (pw_and1 (pt_cmpR op_lt (pe_callB call_lenS rfl (f_len T) (by decide +kernel) (pa_cons (pv 5) pa_nil)) (pe_callB call_lenS rfl (f_len T) (by decide +kernel) (pa_cons (pv 2) pa_nil)) (nomark _))))) (pw_or1 (pt_not (pt_truthS (pv 3) (by intro _; rfl))))))))) (pss_one (ps_expr (pe_bm PySem.F.plainAttrs_list PySem.F.slot_list_append PySem.F.type_list_append mt_append (pv 3) (pa_cons (pe_tup (pa_cons (pe_ix ix_list (pv 7) (pe_callB call_lenS rfl (f_len T) (by decide +kernel) (pa_cons (pv 5) pa_nil)) (fun _ _ => rfl)) (pa_cons (pe_op op_catT (pe_tup (pa_cons (pe_ix ix_tup (pv 6) pe_int (fun _ _ => rfl)) (pa_cons (pv 4) pa_nil))) (pe_slice sl_tup (pv 6) (po_some pe_int) po_none)) pa_nil))) pa_nil)))) pss_nil)
      (pss_one (ps_set (i := 2) sc_law_all.nd rfl (Or.inl rfl) (pv 8))))))))))
      (pss_one (ps_ret (pe_tup (pa_cons (pe_lc (own := [("_law_one", 10)]) (g := gName 10) (tt := tYes) rfl sc_law_all.nd (pi_list (pv 2)) (blkOk_by (own := [("_law_one", 10)]) (N := n_law_all) (sc := defScope s_law_all) (by decide +kernel)) (fun _ _ _ _ _ => pg_name (i := 10) sc_law_all.nd rfl (Or.inl rfl)) (fun _ _ _ _ _ => pts_nil) (fun _ _ _ _ _ => (pe_ix (ix_tupK K rfl) (pv 10) pe_int (fun _ _ => rfl)))) (pa_cons (pe_ifExp (pt_truthS (pv 3) (by intro _; rfl)) (pe_ix ix_tup (pe_callB (cr_minD rfl hr.units) rfl (f_min T) (by decide +kernel) (pa_cons (pv 3) pa_nil)) pe_int (fun _ _ => rfl)) pe_non) pa_nil)))))))), rfl, ?_⟩
    try dsimp only [cxOf]
    wtm_at "x"
    rw [iV_length]
    refine x_rLcRM (k := row.length) (fun k : Nat => (gI row (k : Int), [(k : Int)])) rfl (by omega) (fun _ => rfl) (fun k H1 hk e1 Q' kk => ?_) fun tl ts H1 htl0 e1 htl htm => ?_
    · wtm_at "x"
      refine x_ixL (SqL.ext e1 hra) (gI_at (by omega) (by omega)) ?_
      wtm_at "x"
      intro u n_u
      have e_u : Ext H1 (upd H1 u (.tup [V.int (k : Int)])) := Only'.put0 Only'.refl n_u
      have h_u : (upd H1 u (.tup [V.int (k : Int)])) u = some (.tup [V.int (k : Int)]) := upd_same
      generalize (upd H1 u (.tup [V.int (k : Int)])) = H2 at *
      wtm_at "x"
      intro t n_t
      have e_t : Ext H2 (upd H2 t (.tup [V.int (gI row (k : Int)), V.ref u])) := Only'.put0 Only'.refl n_t
      have h_t : (upd H2 t (.tup [V.int (gI row (k : Int)), V.ref u])) t = some (.tup [V.int (gI row (k : Int)), V.ref u]) := upd_same
      generalize (upd H2 t (.tup [V.int (gI row (k : Int)), V.ref u])) = H3 at *
      exact kk t _ (e_u.trans e_t) ⟨u, h_t, e_t u _ h_u (by simp)⟩
    · wtm_at "x"
      intro fl n_fl
      have e_fl : Ext H1 (upd H1 fl (.lst [])) := Only'.put0 Only'.refl n_fl
      have h_fl : (upd H1 fl (.lst [])) fl = some (.lst []) := upd_same
      generalize (upd H1 fl (.lst [])) = H2 at *
      have hfl0 : H fl = none := e1.free n_fl
      have e02 := e1.trans e_fl
      have hla2 := SqL.ext e02 hla
      wtm_at "x"
      refine x_rForRev (k := lays.length) (by rw [List.length_map, hll]) (by omega) (fun i σ H' => ∃ (told : TRow) (faults : List (Row × Fault)) (tl : Addr) (ts fts : List Addr) (v4 v5 v6 v7 v8 v9 : Option V),
        σ = [some (.ref la), some (.ref ra), some (.ref tl), some (.ref fl), v4, v5, v6, v7, v8, v9, none, none] ∧ LA H fl H' told faults tl ts fts ∧ Tim row.length i told faults ∧
        down (lays.reverse.drop i) (told.map (·.1), foOf faults) = readAll lays row ∧ Bys (told.map (·.1)) ∧ told.length ≤ 30000 ∧ (∀ x, x ∈ told → x.2.length ≤ i + 1) ∧ faults.length ≤ i) ?_ ?_ ?_
      · refine ⟨_, [], tl, ts, [], _, _, _, _, _, _, rfl, ⟨e02, e_fl tl _ htl (by simp), htm.ext e_fl, h_fl, FtsIn.nil, ne_of_none htl n_fl⟩, Tim.start row, ?_, ?_, by rw [List.length_map, List.length_range]; exact hz, fun x hx => ?_, Nat.zero_le _⟩
        · rw [List.drop_zero, List.map_map]
          have e : ((List.range row.length).map ((fun x : Int × Row => x.1) ∘ fun k : Nat => (gI row (k : Int), [(k : Int)]))) = row := by
            have e2 := map_gI (fun x : Int => x) row
            rw [List.map_id'] at e2
            exact e2
          rw [e]
          show down lays.reverse (row, none) = _
          rw [down_none, List.reverse_reverse]
        · intro b hb
          rw [List.map_map] at hb
          obtain ⟨k, hk, rfl⟩ := List.mem_map.mp hb
          exact gI_by hby (List.mem_range.mp hk)
        · obtain ⟨k, _, rfl⟩ := List.mem_map.mp hx
          exact Nat.le_refl _
      · rintro i σ H' hi ⟨told, faults, tl, ts, fts, v4, v5, v6, v7, v8, v9, rfl, c, tm, hdn, hbt, htz, htt, hff⟩
        obtain ⟨j, hj⟩ : ∃ j : Nat, j = lays.length - 1 - i := ⟨_, rfl⟩
        rw [← hj]
        have hjl : j < lays.length := by omega
        obtain ⟨ly, hly⟩ : ∃ ly, lays[j]? = some ly := ⟨_, List.getElem?_eq_getElem hjl⟩
        have ok := oks ly (List.mem_of_getElem? hly)
        obtain ⟨lt, hlt1⟩ : ∃ lt, lts[j]? = some lt := ⟨_, List.getElem?_eq_getElem (by omega)⟩
        rw [down_next hi, ← hj, show lays.getD j .front = ly by simp [List.getD, hly]] at hdn
        have htl1 := c.tl_
        have hfl1 := c.fl_
        wtm_at "x"
        refine x_ixL (SqL.ext c.ext hla) (v := .ref lt) (at_of rfl (by rw [List.getElem?_map, hlt1]; rfl)) ?_
        wtm_at "x"
        refine x_rLcL (fun n => V.int (gI (told.map (·.1)) (n : Int))) (SqL.of htl1) (by rw [List.length_map, c.tim.len, sizeLine_eq]; omega) (fun _ => rfl) (fun n x H3 hx e3 Q' kk => ?_) fun pb H3 hpb0 e3 hpb => ?_
        · obtain ⟨t, y, rfl, ht, hy, hTA⟩ := tim_get c.tim hx
          obtain ⟨u, h1, h2⟩ := hTA
          wtm_at "x"
          refine x_ixT (SqT.of (e3 t _ h1 (by simp))) (at_of (j := 0) rfl rfl) ?_
          rw [gI_map1 hy] at kk
          exact kk _ Only'.refl
        rw [ints_iV, List.length_map, c.tim.len, show told.length = (told.map (·.1)).length by rw [List.length_map], map_gI (fun x : Int => x) (told.map (·.1)), List.map_id'] at hpb
        have c3 := c.to e3
        wtm_at "x"
        refine ⟨lt, pb, ly, told.map (·.1), rfl, SqT.ext c3.ext (hlt j lt ly hlt1 hly), ok, SqL.of hpb, hbt, by rw [List.length_map]; exact htz, fun H4 tp rl rts fv e4 htp0 hrl0 hrts0 htp hrl hri hlf => ?_⟩
        have hosz := own_size ok hbt
        rw [List.length_map] at hosz
        obtain ⟨rows, hrows⟩ : ∃ rows, rows = (own (newR ly) (told.map (·.1))).1 := ⟨_, rfl⟩
        obtain ⟨lf, hlfe⟩ : ∃ lf, lf = (own (newR ly) (told.map (·.1))).2 := ⟨_, rfl⟩
        rw [← hrows] at hri hosz
        rw [← hlfe] at hlf
        have ho : own (newR ly) (told.map (·.1)) = (rows, lf) := by rw [hrows, hlfe]
        have c4 := c3.to e4
        have htl4 := c4.tl_
        have hfl4 := c4.fl_
        wtm_at "x"
        refine x_gTup2 (SqT.of htp) ?_
        try dsimp only [List.set]
        wtm_at "x"
        refine x_rLcL (fun n => V.ref (uOf H4 (ts.getD n 0))) (SqL.of htl4) (by rw [List.length_map, c.tim.len, sizeLine_eq]; omega) (fun _ => rfl) (fun n x H5 hx e5 Q' kk => ?_) fun pt H5 hpt0 e5 hpt => ?_
        · obtain ⟨t, y, rfl, ht, hy, hTA⟩ := tim_get c4.tim hx
          obtain ⟨h1, h2⟩ := uOf_at hTA
          wtm_at "x"
          refine x_ixT (SqT.of (e5 t _ h1 (by simp))) (at_of (j := 1) rfl rfl) ?_
          rw [show ts.getD n 0 = t by simp [List.getD, ht]] at kk
          exact kk _ Only'.refl
        have hpt' : H5 pt = some (.lst ((ts.map (uOf H4)).map V.ref)) := by
          rw [hpt, List.length_map, List.map_map]
          refine congrArg (fun z => some (HO.lst z)) (List.ext_getElem? fun n => ?_)
          rw [List.getElem?_map, List.getElem?_map]
          by_cases hn : n < ts.length
          · rw [List.getElem?_range hn, List.getElem?_eq_getElem hn]
            show some (V.ref (uOf H4 (ts.getD n 0))) = some (V.ref (uOf H4 ts[n]))
            rw [show ts.getD n 0 = ts[n] by simp [List.getD, List.getElem?_eq_getElem hn]]
          · rw [List.getElem?_eq_none (by rw [List.length_range]; omega), List.getElem?_eq_none (by omega)]
            rfl
        have hra5 := SqL.ext ((c4.ext).trans e5) hra
        have hla5 := SqL.ext ((c4.ext).trans e5) hla
        wtm_at "x"
        rw [iV_length, List.length_map, hll, show (row.length : Int) + (lays.length : Int) - 1 - (j : Int) = ((row.length + i : Nat) : Int) by omega]
        intro ue n_ue
        have e_ue : Ext H5 (upd H5 ue (.tup [V.int ((row.length + i : Nat) : Int)])) := Only'.put0 Only'.refl n_ue
        have h_ue : (upd H5 ue (.tup [V.int ((row.length + i : Nat) : Int)])) ue = some (.tup [V.int ((row.length + i : Nat) : Int)]) := upd_same
        generalize (upd H5 ue (.tup [V.int ((row.length + i : Nat) : Int)])) = H6 at *
        wtm_at "x"
        intro pe n_pe
        have e_pe : Ext H6 (upd H6 pe (.lst [V.ref ue])) := Only'.put0 Only'.refl n_pe
        have h_pe : (upd H6 pe (.lst [V.ref ue])) pe = some (.lst [V.ref ue]) := upd_same
        generalize (upd H6 pe (.lst [V.ref ue])) = H7 at *
        refine x_cat ((e_ue.trans e_pe) pt _ hpt' (by simp)) h_pe (by rw [List.length_map, List.length_map, c.tim.len, sizeLine_eq]; simp; omega) ?_
        intro tml n_tml
        have e_tml : Ext H7 (upd H7 tml (.lst ((ts.map (uOf H4)).map V.ref ++ [V.ref ue]))) := Only'.put0 Only'.refl n_tml
        have h_tml : (upd H7 tml (.lst ((ts.map (uOf H4)).map V.ref ++ [V.ref ue]))) tml = some (.lst ((ts.map (uOf H4)).map V.ref ++ [V.ref ue])) := upd_same
        generalize (upd H7 tml (.lst ((ts.map (uOf H4)).map V.ref ++ [V.ref ue]))) = H8 at *
        obtain ⟨tms, htms⟩ : ∃ tms, tms = told.map (·.2) ++ [[((row.length + i : Nat) : Int)]] := ⟨_, rfl⟩
        obtain ⟨uts, huts⟩ : ∃ uts, uts = ts.map (uOf H4) ++ [ue] := ⟨_, rfl⟩
        have h_tml' : H8 tml = some (.lst (uts.map V.ref)) := by
          rw [h_tml, huts, List.map_append]
          rfl
        have e48 := (((e5.trans e_ue).trans e_pe).trans e_tml)
        have hT : TmsIn H8 uts tms := by
          rw [huts, htms]
          exact ((tim_tms c4.tim).ext e48).snoc ((e_pe.trans e_tml) ue _ h_ue (by simp))
        wtm_at "x"
        intro nl n_nl
        have e_nl : Ext H8 (upd H8 nl (.lst [])) := Only'.put0 Only'.refl n_nl
        have h_nl : (upd H8 nl (.lst [])) nl = some (.lst []) := upd_same
        generalize (upd H8 nl (.lst [])) = H9 at *
        have e49 := e48.trans e_nl
        have c9 := c4.to e49
        have hrl9 := e49 rl _ hrl (by simp)
        have hri9 := hri.ext e49
        have hfl9 := c9.fl_
        have htl9 := c9.tl_
        have html9 := e_nl tml _ h_tml' (by simp)
        have hT9 := hT.ext e_nl
        have hlf9 := hlf.ext e49
        have hnlf : nl ≠ fl := Ne.symm (ne_of_none (c4.to e48).fl_ n_nl)
        have hst := tm.step j ly ho htms
        have hnil : ∀ k tk, tms[k]? = some tk → tk ≠ [] ∧ tk.length ≤ i + 1 := fun k tk hk => by
          have hm := List.mem_of_getElem? hk
          rw [htms] at hm
          rcases List.mem_append.mp hm with z | z
          · obtain ⟨x, hx, rfl⟩ := List.mem_map.mp z
            exact ⟨ahead_ne_nil (tm.hd x hx), htt x hx⟩
          · rw [List.mem_singleton.mp z]
            exact ⟨by simp, by simp⟩
        have htl8 : tms.length = told.length + 1 := by
          rw [htms, List.length_append, List.length_map]
          rfl
        have hrle : rows.length ≤ told.length + 1 := by
          have := (own_later (newR ly) (told.map (·.1))).2.2.2
          rw [← hrows, List.length_map] at this
          exact this
        have hfemp := fts_empty c9.fts_
        wtm_at "x"
        refine x_rForR1 (k := rows.length) (by rw [List.length_map, hri.len]) (by omega) (fun m σ H' => ∃ (us : List Addr) (v9 : Option V), σ = [some (.ref la), some (.ref ra), some (.ref tl), some (.ref fl), some (.int (j : Int)), some (.ref rl), some fv, some (.ref tml), some (.ref nl), v9, none, none] ∧
          Ext H8 H' ∧ H' nl = some (.lst (us.map V.ref)) ∧ TimIn H' us (newOf rows tms (mk faults.isEmpty told.length m))) ⟨[], _, rfl, e_nl, h_nl, by rw [mk_zero]; exact TimIn.nil⟩ ?_ ?_
        · rintro m σ Hm hm ⟨us, v9, rfl, em, hnm, htm2⟩
          have cm := c4.to (e48.trans em)
          have htlm := cm.tl_
          have hflm := cm.fl_
          have hrlm := (e48.trans em) rl _ hrl (by simp)
          have htmlm := em tml _ h_tml' (by simp)
          wtm_at "x"
          refine x_orK (a := decide (m < told.length)) (b := faults.isEmpty) (fun B' kk => ?_) (fun _ B' kk => ?_) ?_
          · wtm_at "x"
            rw [List.length_map, cm.tim.len, show decide ((m : Int) < (told.length : Int)) = decide (m < told.length) from decide_eq_decide.mpr Int.ofNat_lt]
            exact kk
          · wtm_at "x"
            refine x_truL (SqL.of hflm) ?_
            rw [hfemp, Bool.not_not]
            exact kk
          · refine ite_b (fun hc => ?_) fun hc => ?_
            · obtain ⟨k1, k2⟩ := mk_yes hc
              rw [k1] at htm2
              obtain ⟨rk, hrk⟩ : ∃ rk, rows[m]? = some rk := ⟨_, List.getElem?_eq_getElem hm⟩
              obtain ⟨ra1, hra1, hra2⟩ := (hri.ext (e48.trans em)).get hrk
              obtain ⟨tk, htk⟩ : ∃ tk, tms[m]? = some tk := ⟨_, List.getElem?_eq_getElem (by omega)⟩
              obtain ⟨ut, hut1, hut2⟩ := (hT.ext em).get htk
              obtain ⟨tn, tlen⟩ := hnil m tk htk
              have hblk : newOf rows tms (m + 1) = newOf rows tms m ++ blockOf rk tk := by
                rw [newOf_succ, List.getD_eq_getElem?_getD, List.getD_eq_getElem?_getD, hrk, htk]
                rfl
              have hnl1 := newOf_len rows tms (show m + 1 ≤ rows.length by omega)
              rw [hblk, List.length_append, block_len] at hnl1
              wtm_at "x"
              refine x_ixL (SqL.of hrlm) (v := .ref ra1) (at_of rfl (by rw [List.getElem?_map, hra1]; rfl)) ?_
              wtm_at "x"
              rw [iV_length]
              refine x_rLcRM (k := rk.length) (fun n : Nat => (gI rk (n : Int), tk ++ [(n : Int)])) rfl (by omega) (fun _ => rfl) (fun n H3 hn e3 Q' kk => ?_) fun p us2 H3 hp0 e3 hp hm2 => ?_
              · wtm_at "x"
                refine x_ixL (SqL.of (e3 rl _ hrlm (by simp))) (v := .ref ra1) (at_of rfl (by rw [List.getElem?_map, hra1]; rfl)) ?_
                wtm_at "x"
                refine x_ixL (SqL.of (e3 ra1 _ hra2 (by simp))) (gI_at (by omega) (by omega)) ?_
                wtm_at "x"
                refine x_ixL (SqL.of (e3 tml _ htmlm (by simp))) (v := .ref ut) (at_of rfl (by rw [List.getElem?_map, hut1]; rfl)) ?_
                wtm_at "x"
                intro p1 n_p1
                have e_p1 : Ext H3 (upd H3 p1 (.tup [V.int (n : Int)])) := Only'.put0 Only'.refl n_p1
                have h_p1 : (upd H3 p1 (.tup [V.int (n : Int)])) p1 = some (.tup [V.int (n : Int)]) := upd_same
                generalize (upd H3 p1 (.tup [V.int (n : Int)])) = HA at *
                refine x_catT (SqT.of ((e3.trans e_p1) ut _ hut2 (by simp))) (SqT.of h_p1) (fun z => tn (by
                  cases tk with
                  | nil => rfl
                  | cons _ _ => cases z)) (by simp) (by rw [iV_length, sizeLine_eq]; simp; omega) ?_
                intro p2 n_p2
                have e_p2 : Ext HA (upd HA p2 (.tup (iV tk ++ [V.int (n : Int)]))) := Only'.put0 Only'.refl n_p2
                have h_p2 : (upd HA p2 (.tup (iV tk ++ [V.int (n : Int)]))) p2 = some (.tup (iV tk ++ [V.int (n : Int)])) := upd_same
                generalize (upd HA p2 (.tup (iV tk ++ [V.int (n : Int)]))) = HB at *
                wtm_at "x"
                intro t n_t
                have e_t : Ext HB (upd HB t (.tup [V.int (gI rk (n : Int)), V.ref p2])) := Only'.put0 Only'.refl n_t
                have h_t : (upd HB t (.tup [V.int (gI rk (n : Int)), V.ref p2])) t = some (.tup [V.int (gI rk (n : Int)), V.ref p2]) := upd_same
                generalize (upd HB t (.tup [V.int (gI rk (n : Int)), V.ref p2])) = HC at *
                exact kk t _ ((e_p1.trans e_p2).trans e_t) ⟨p2, h_t, by rw [iV_append]; exact e_t p2 _ h_p2 (by simp)⟩
              · have hn3 := e3 nl _ hnm (by simp)
                wtm_at "x"
                refine x_extend hn3 hp (by rw [List.length_map, List.length_map, htm2.len, hm2.len, List.length_map, List.length_range, sizeLine_eq]; omega) ?_
                wtm_at "x"
                refine ⟨us ++ us2, _, rfl, (em.trans e3).put0 n_nl, by rw [upd_same, List.map_append], ?_⟩
                rw [k2, hblk]
                exact ((htm2.ext e3).app hm2).put hn3
            · rw [← mk_no hc] at htm2
              wtm_at "x"
              exact ⟨us, _, rfl, em, hnm, htm2⟩
        · rintro σ Hm ⟨us, v9, rfl, em, hnm, htm2⟩
          rw [mk_of] at htm2
          have cm := c4.to (e48.trans em)
          have htlm := cm.tl_
          have hflm := cm.fl_
          have hrlm := (e48.trans em) rl _ hrl (by simp)
          have htmlm := em tml _ h_tml' (by simp)
          have hlfm := hlf.ext (e48.trans em)
          have hfsz : (fts.map V.ref).length < sizeLine := by
            rw [List.length_map, c.fts_.len, sizeLine_eq]
            omega
          obtain ⟨faults', hf'⟩ : ∃ faults', faults' = fPut j (tms.getD rows.length []) faults (putLF lf rows.length told.length faults.isEmpty) := ⟨_, rfl⟩
          rw [← hf'] at hst
          obtain ⟨told', ht'⟩ : ∃ told', told' = newOf rows tms (mOf rows told faults) := ⟨_, rfl⟩
          have htt' : ∀ x, x ∈ told' → x.2.length ≤ i + 1 + 1 := fun x hx => by
            rw [ht'] at hx
            obtain ⟨k, n, _, e⟩ := newOf_mem hx
            rw [e, List.length_append, List.getD_eq_getElem?_getD]
            cases htk : tms[k]? with
            | none => exact Nat.succ_le_succ (Nat.zero_le _)
            | some tk =>
              have := (hnil k tk htk).2
              show tk.length + 1 ≤ _
              omega
          rw [← ht'] at hst htm2
          obtain ⟨st1, st2, st3⟩ := hst
          wtm_at "x"
          rw [List.length_map, htm2.len]
          refine ite_d (fun _ => ?_) fun h2000 => ?_
          · wtm_at "x"
            exact qn _ cm.ext
          · refine x_next ?_
            dsimp only
            refine seq_cut1 (s1 := tIfS _ _ _) (fun σ' HJ => ∃ fts', σ' = [some (.ref la), some (.ref ra), some (.ref tl), some (.ref fl), some (.int (j : Int)), some (.ref rl), some fv, some (.ref tml), some (.ref nl), v9, none, none] ∧
              Ext H HJ ∧ HJ fl = some (.lst (fts'.map V.ref)) ∧ FtsIn HJ fts' faults' ∧ HJ nl = some (.lst (us.map V.ref)) ∧ TimIn HJ us told') ?_ fun R hR => ?_
            · rintro σ' HJ ⟨fts', rfl, eJ, hflJ, hftsJ, hnlJ, htmJ⟩
              have hls := lstep_size j ok hbt (foOf faults)
              rw [← st2] at hls hdn
              show tAsg (tVar 8) (gName 2) _ _ _
              wtm_at "x"
              refine ⟨told', faults', nl, us, fts', _, _, _, _, _, _, rfl, ⟨eJ, hnlJ, htmJ, hflJ, hftsJ, hnlf⟩, st1, hdn, hls.2, by omega, htt', ?_⟩
              rw [hf']
              cases putLF lf rows.length told.length faults.isEmpty with
              | none => exact Nat.le_succ_of_le hff
              | some f =>
                show (faults ++ [_]).length ≤ _
                rw [List.length_append]
                exact Nat.succ_le_succ hff
            · have em1 := c4.to (e48.trans em)
              match lf, hlfm, hf', st3 with
              | none, hlfm, hf', _ =>
                have hfv : fv = .non := hlfm
                subst hfv
                wtm_at "x"
                refine x_andK (a := false) (b := true) (fun B' kk => ?_) (fun z => ?_) ?_
                · wtm_at "x"
                  exact kk
                · cases z
                · refine iteF ?_
                  wtm_at "x"
                  exact hR _ _ ⟨fts, rfl, cm.ext, hflm, by rw [hf']; exact cm.fts_, hnm, htm2⟩
              | some (.wrong p), hlfm, hf', st3 =>
                obtain ⟨ft, rfl, hft⟩ := hlfm
                wtm_at "x"
                refine x_andK (a := true) (b := decide (rows.length < told.length) || faults.isEmpty) (fun B' kk => ?_) (fun _ B' kk => ?_) ?_
                · wtm_at "x"
                  exact kk
                · refine x_orK (a := decide (rows.length < told.length)) (b := faults.isEmpty) (fun B2 k2 => ?_) (fun _ B2 k2 => ?_) kk
                  · refine x_andK (a := true) (b := decide (rows.length < told.length)) (fun B3 k3 => ?_) (fun _ B3 k3 => ?_) k2
                    · wtm_at "x"
                      refine x_ixT (SqT.of hft) (at_of (j := 0) rfl rfl) ?_
                      wtm_at "x"
                      exact k3
                    · wtm_at "x"
                      rw [List.length_map, List.length_map, hri.len, cm.tim.len, show decide ((rows.length : Int) < (told.length : Int)) = decide (rows.length < told.length) from decide_eq_decide.mpr Int.ofNat_lt]
                      exact k3
                  · wtm_at "x"
                    refine x_truL (SqL.of hflm) ?_
                    rw [hfemp, Bool.not_not]
                    exact k2
                · refine ite_b (fun hc => ?_) fun hc => ?_
                  · have hpt : putLF (some (.wrong p)) rows.length told.length faults.isEmpty = some (.wrong p) := by
                      simp only [Bool.true_and, Bool.or_eq_true, decide_eq_true_eq] at hc
                      exact if_pos hc
                    have hle := st3 _ hpt
                    rw [hpt] at hf'
                    obtain ⟨tk, htk⟩ : ∃ tk, tms[rows.length]? = some tk := ⟨_, List.getElem?_eq_getElem (by omega)⟩
                    obtain ⟨ut, hut1, hut2⟩ := (hT.ext em).get htk
                    wtm_at "x"
                    rw [List.length_map, hri.len]
                    refine x_ixL (SqL.of htmlm) (v := .ref ut) (at_of rfl (by rw [List.getElem?_map, hut1]; rfl)) ?_
                    wtm_at "x"
                    refine x_ixT (SqT.of hft) (at_of (j := 0) rfl rfl) ?_
                    wtm_at "x"
                    intro p1 n_p1
                    have e_p1 : Ext Hm (upd Hm p1 (.tup [V.str "wrong", V.int (j : Int)])) := Only'.put0 Only'.refl n_p1
                    have h_p1 : (upd Hm p1 (.tup [V.str "wrong", V.int (j : Int)])) p1 = some (.tup [V.str "wrong", V.int (j : Int)]) := upd_same
                    generalize (upd Hm p1 (.tup [V.str "wrong", V.int (j : Int)])) = HA at *
                    wtm_at "x"
                    refine x_slT (SqT.of (e_p1 ft _ hft (by simp))) (by intro z; have := z.1; unfold HT.sIx at this; simp at this) ?_
                    rw [show cutV [V.str "wrong", V.int p] (some 1) none = [V.int p] from cut_from (k := 1) rfl]
                    intro p2 n_p2
                    have e_p2 : Ext HA (upd HA p2 (.tup [V.int p])) := Only'.put0 Only'.refl n_p2
                    have h_p2 : (upd HA p2 (.tup [V.int p])) p2 = some (.tup [V.int p]) := upd_same
                    generalize (upd HA p2 (.tup [V.int p])) = HB at *
                    refine x_catT (SqT.of (e_p2 p1 _ h_p1 (by simp))) (SqT.of h_p2) (by simp) (by simp) (by rw [sizeLine_eq]; simp) ?_
                    intro p3 n_p3
                    have e_p3 : Ext HB (upd HB p3 (.tup ([V.str "wrong", V.int (j : Int)] ++ [V.int p]))) := Only'.put0 Only'.refl n_p3
                    have h_p3 : (upd HB p3 (.tup ([V.str "wrong", V.int (j : Int)] ++ [V.int p]))) p3 = some (.tup ([V.str "wrong", V.int (j : Int)] ++ [V.int p])) := upd_same
                    generalize (upd HB p3 (.tup ([V.str "wrong", V.int (j : Int)] ++ [V.int p]))) = HC at *
                    wtm_at "x"
                    intro t n_t
                    have e_t : Ext HC (upd HC t (.tup [V.ref ut, V.ref p3])) := Only'.put0 Only'.refl n_t
                    have h_t : (upd HC t (.tup [V.ref ut, V.ref p3])) t = some (.tup [V.ref ut, V.ref p3]) := upd_same
                    generalize (upd HC t (.tup [V.ref ut, V.ref p3])) = HD at *
                    have eD := ((e_p1.trans e_p2).trans e_p3).trans e_t
                    have cD := cm.to eD
                    have hflD := cD.fl_
                    wtm_at "x"
                    refine hR _ _ ⟨fts ++ [t], rfl, cD.ext.put0 hfl0, by rw [upd_same, List.map_append]; rfl, ?_, upd_get hnlf (eD nl _ hnm (by simp)), (htm2.ext eD).put hflD⟩
                    rw [hf', List.getD_eq_getElem?_getD, htk]
                    exact (cD.fts_.snoc (x := (tk, Fault.wrong (j : Int) p)) ⟨ut, p3, h_t, eD ut _ hut2 (by simp), e_t p3 _ h_p3 (by simp)⟩).keep (tup_put hflD)
                  · have hpt : putLF (some (.wrong p)) rows.length told.length faults.isEmpty = none := by
                      refine if_neg fun z => ?_
                      rcases z with z | z
                      · rw [decide_eq_true z] at hc
                        cases hc
                      · rw [z, Bool.or_true] at hc
                        cases hc
                    rw [hpt] at hf'
                    wtm_at "x"
                    exact hR _ _ ⟨fts, rfl, cm.ext, hflm, by rw [hf']; exact cm.fts_, hnm, htm2⟩
              | some .cut, hlfm, hf', st3 =>
                obtain ⟨ft, rfl, hft⟩ := hlfm
                wtm_at "x"
                refine x_andK (a := true) (b := false || faults.isEmpty) (fun B' kk => ?_) (fun _ B' kk => ?_) ?_
                · wtm_at "x"
                  exact kk
                · refine x_orK (a := false) (b := faults.isEmpty) (fun B2 k2 => ?_) (fun _ B2 k2 => ?_) kk
                  · refine x_andK (a := false) (b := false) (fun B3 k3 => ?_) (fun z => ?_) k2
                    · wtm_at "x"
                      refine x_ixT (SqT.of hft) (at_of (j := 0) rfl rfl) ?_
                      wtm_at "x"
                      rw [show decide (("cut" : Str) = "wrong") = false from by decide +kernel]
                      exact k3
                    · cases z
                  · wtm_at "x"
                    refine x_truL (SqL.of hflm) ?_
                    rw [hfemp, Bool.not_not]
                    exact k2
                · refine ite_b (fun hc => ?_) fun hc => ?_
                  · have hem : faults.isEmpty = true := hc
                    have hpt : putLF (some .cut) rows.length told.length faults.isEmpty = some .cut := by
                      rw [hem]
                      rfl
                    have hle := st3 _ hpt
                    rw [hpt] at hf'
                    obtain ⟨tk, htk⟩ : ∃ tk, tms[rows.length]? = some tk := ⟨_, List.getElem?_eq_getElem (by omega)⟩
                    obtain ⟨ut, hut1, hut2⟩ := (hT.ext em).get htk
                    wtm_at "x"
                    rw [List.length_map, hri.len]
                    refine x_ixL (SqL.of htmlm) (v := .ref ut) (at_of rfl (by rw [List.getElem?_map, hut1]; rfl)) ?_
                    wtm_at "x"
                    refine x_ixT (SqT.of hft) (at_of (j := 0) rfl rfl) ?_
                    wtm_at "x"
                    intro p1 n_p1
                    have e_p1 : Ext Hm (upd Hm p1 (.tup [V.str "cut", V.int (j : Int)])) := Only'.put0 Only'.refl n_p1
                    have h_p1 : (upd Hm p1 (.tup [V.str "cut", V.int (j : Int)])) p1 = some (.tup [V.str "cut", V.int (j : Int)]) := upd_same
                    generalize (upd Hm p1 (.tup [V.str "cut", V.int (j : Int)])) = HA at *
                    wtm_at "x"
                    refine x_slT (SqT.of (e_p1 ft _ hft (by simp))) (by intro z; have := z.1; unfold HT.sIx at this; simp at this) ?_
                    rw [show cutV [V.str "cut"] (some 1) none = [] from cut_from (k := 1) rfl]
                    intro p2 n_p2
                    have e_p2 : Ext HA (upd HA p2 (.tup [])) := Only'.put0 Only'.refl n_p2
                    have h_p2 : (upd HA p2 (.tup [])) p2 = some (.tup []) := upd_same
                    generalize (upd HA p2 (.tup [])) = HB at *
                    refine x_catT0 (SqT.of (e_p2 p1 _ h_p1 (by simp))) (SqT.of h_p2) (by simp) (by rw [sizeLine_eq]; simp) ?_
                    wtm_at "x"
                    intro t n_t
                    have e_t : Ext HB (upd HB t (.tup [V.ref ut, V.ref p1])) := Only'.put0 Only'.refl n_t
                    have h_t : (upd HB t (.tup [V.ref ut, V.ref p1])) t = some (.tup [V.ref ut, V.ref p1]) := upd_same
                    generalize (upd HB t (.tup [V.ref ut, V.ref p1])) = HD at *
                    have eD := (e_p1.trans e_p2).trans e_t
                    have cD := cm.to eD
                    have hflD := cD.fl_
                    wtm_at "x"
                    refine hR _ _ ⟨fts ++ [t], rfl, cD.ext.put0 hfl0, by rw [upd_same, List.map_append]; rfl, ?_, upd_get hnlf (eD nl _ hnm (by simp)), (htm2.ext eD).put hflD⟩
                    rw [hf', List.getD_eq_getElem?_getD, htk]
                    exact (cD.fts_.snoc (x := (tk, Fault.cut (j : Int))) ⟨ut, p1, h_t, eD ut _ hut2 (by simp), (e_p2.trans e_t) p1 _ h_p1 (by simp)⟩).keep (tup_put hflD)
                  · have hem : faults.isEmpty = false := hc
                    have hpt : putLF (some .cut) rows.length told.length faults.isEmpty = none := by
                      rw [hem]
                      rfl
                    rw [hpt] at hf'
                    wtm_at "x"
                    exact hR _ _ ⟨fts, rfl, cm.ext, hflm, by rw [hf']; exact cm.fts_, hnm, htm2⟩
      · rintro σ H' ⟨told, faults, tl, ts, fts, v4, v5, v6, v7, v8, v9, rfl, c, tm, hdn, hbt, htz, htt, hff⟩
        rw [down_end] at hdn
        rw [← hdn] at q
        have htl1 := c.tl_
        have hfl1 := c.fl_
        wtm_at "x"
        refine x_rLcL (fun n => V.int (gI (told.map (·.1)) (n : Int))) (SqL.of htl1) (by rw [List.length_map, c.tim.len, sizeLine_eq]; omega) (fun _ => rfl) (fun n x H3 hx e3 Q' kk => ?_) fun p H3 hp0 e3 hp => ?_
        · obtain ⟨t, y, rfl, ht, hy, hTA⟩ := tim_get c.tim hx
          obtain ⟨u, h1, h2⟩ := hTA
          wtm_at "x"
          refine x_ixT (SqT.of (e3 t _ h1 (by simp))) (at_of (j := 0) rfl rfl) ?_
          rw [gI_map1 hy] at kk
          exact kk _ Only'.refl
        · rw [ints_iV, List.length_map, c.tim.len, show told.length = (told.map (·.1)).length by rw [List.length_map], map_gI (fun x : Int => x) (told.map (·.1)), List.map_id'] at hp
          have c3 := c.to e3
          have hfl3 := c3.fl_
          have hq := q (by rw [List.length_map]; exact htz)
          wtm_at "x"
          refine x_truL (SqL.of hfl3) ?_
          rw [fts_empty c3.fts_]
          cases hfe : faults with
          | nil =>
            rw [hfe] at hq
            refine iteF ?_
            wtm_at "x"
            intro tp n_tp
            have e_tp : Ext H3 (upd H3 tp (.tup [V.ref p, V.non])) := Only'.put0 Only'.refl n_tp
            have h_tp : (upd H3 tp (.tup [V.ref p, V.non])) tp = some (.tup [V.ref p, V.non]) := upd_same
            generalize (upd H3 tp (.tup [V.ref p, V.non])) = H4 at *
            exact hq _ tp p .non (c3.ext.trans e_tp) h_tp (e_tp p _ hp (by simp)) rfl
          | cons f0 fr =>
            refine iteT ?_
            wtm_at "x"
            have hpos : 0 < fts.length := by
              rw [c3.fts_.len, hfe]
              exact Nat.zero_lt_succ _
            refine ⟨fl, fts.map V.ref, faults.map ftD, rfl, SqL.of hfl3, dp_fts c3.fts_, alike_fts faults, by have := depth_fts faults; omega, by rw [List.length_map]; exact hpos, fun x hx => ?_⟩
            rw [best_last _ _ (fun n hn => by
              rw [List.length_map, c3.fts_.len] at hn
              have h1 : n + 1 < faults.length := by omega
              have h2 : n < faults.length := by omega
              have h3 := List.pairwise_iff_getElem.mp tm.fs n (n + 1) h2 h1 (Nat.lt_succ_self n)
              rw [List.getD_eq_getElem?_getD, List.getD_eq_getElem?_getD, List.getElem?_map, List.getElem?_map, List.getElem?_eq_getElem h1, List.getElem?_eq_getElem h2]
              exact tf_lt h3), List.length_map, List.getElem?_map] at hx
            have hlast : fts[fts.length - 1]? = some (fts[fts.length - 1]'(by omega)) := List.getElem?_eq_getElem (by omega)
            rw [hlast] at hx
            have hx2 := Option.some.inj hx
            subst hx2
            have hfi : fts.length - 1 < faults.length := by
              rw [c3.fts_.len] at hpos ⊢
              omega
            obtain ⟨u, wf, h1, h2, h3⟩ := c3.fts_.at_ _ _ _ hlast (List.getElem?_eq_getElem hfi)
            have hfo : foOf faults = some (faults[fts.length - 1]).2 := by
              unfold foOf
              rw [List.getLast?_eq_getElem?]
              have e : faults.length - 1 = fts.length - 1 := by rw [c3.fts_.len]
              rw [e, List.getElem?_eq_getElem hfi]
              rfl
            rw [hfo] at hq
            wtm_at "x"
            refine x_ixT (SqT.of h1) (at_of (j := 1) rfl rfl) ?_
            wtm_at "x"
            intro tp n_tp
            have e_tp : Ext H3 (upd H3 tp (.tup [V.ref p, V.ref wf])) := Only'.put0 Only'.refl n_tp
            have h_tp : (upd H3 tp (.tup [V.ref p, V.ref wf])) tp = some (.tup [V.ref p, V.ref wf]) := upd_same
            generalize (upd H3 tp (.tup [V.ref p, V.ref wf])) = H4 at *
            exact hq _ tp p (.ref wf) (c3.ext.trans e_tp) h_tp (e_tp p _ hp (by simp)) ⟨wf, rfl, rfl, e_tp wf _ h3 (by simp)⟩
end
end Flow

namespace Flow
open PySem PySem.Spec PyProof.Rows L2
/-! ### handed, as data -/
def handD (lays : List Lay) (row : Row) : PyData := .tuple [laysD lays, rowD row]
theorem ints_same (r : Row) : PyData.eqvAll (r.map .int) (r.map .int) = true := by
  have h := row_eqv r r
  rw [decide_eq_true rfl] at h
  simpa [rowD, PyData.eqv] using h
theorem lays_same : ∀ l : List Lay, PyData.eqvAll (l.map layD) (l.map layD) = true
  | [] => by simp [PyData.eqvAll]
  | x :: l => by
    have h1 := lays_same l
    have h2 : PyData.eqv (layD x) (layD x) = true := by simp [layD, PyData.eqv, PyData.eqvAll, ints_same]
    simp [PyData.eqvAll, h1, h2]
theorem hand_same (lays : List Lay) (row : Row) : PyData.eqv (handD lays row) (handD lays row) = true := by
  have h1 := lays_same lays
  have h2 := ints_same row
  simp [handD, laysD, rowD, PyData.eqv, PyData.eqvAll, h1, h2]
theorem hand_shaped (lays : List Lay) (row : Row) : SeqAt.shaped (handD lays row) = true := by
  refine shaped_of ?_ ?_
  · simp only [handD, PyData.canLay0, PyData.canLayAll0, rowD, laysD, lay_ints, laysD_lay]
    rfl
  · have h := laysD_depth lays
    simp only [handD, PyData.depth, PyData.depthAll, rowD, laysD, depth_ints]
    omega
section
variable {P : Program} {w : World} {K : PySem.W.Frag} {mg : Str → Option Value} {base : Heap}
theorem between {lays : List Lay} {row : Row} (oks : ∀ ly, ly ∈ lays → ly.Ok) (hby : Bys row) (few : lays.length ≤ 3) (hz : row.length ≤ 312) (hz2 : 2 ≤ lays.length → row.length ≤ 56) (j : Nat) (hj : j ≤ lays.length) : (written (lays.take j) row).length ≤ 4000 := by
  have hl : (lays.take j).length = j := by rw [List.length_take]; omega
  have one : ∀ (ly : Lay) (r : Row), (wfin (newW ly) r).length ≤ 3 * r.length + 2 := fun ly r => by
    have h1 := wfeed_len (newW ly) r
    have h2 := wend_len (wfeed (newW ly) r).2
    have h3 : pot (newW ly) = 0 := by cases ly <;> rfl
    unfold wfin
    rw [List.length_append]
    omega
  have step : ∀ (i : Nat), i < lays.length → (written (lays.take (i + 1)) row).length ≤ 3 * (written (lays.take i) row).length + 2 := fun i hi => by
    rw [take_more (List.getElem?_eq_getElem hi), written_snoc]
    exact one _ _
  have h0 : (written (lays.take 0) row).length = row.length := by rw [List.take_zero, written_nil]
  match j, hj with
  | 0, _ => omega
  | 1, hj =>
    have h1 : (written (lays.take 1) row).length ≤ _ := step 0 (by omega)
    omega
  | 2, hj =>
    have h1 : (written (lays.take 1) row).length ≤ _ := step 0 (by omega)
    have h2 : (written (lays.take 2) row).length ≤ _ := step 1 (by omega)
    have := hz2 (by omega)
    omega
  | 3, hj =>
    have h1 : (written (lays.take 1) row).length ≤ _ := step 0 (by omega)
    have h2 : (written (lays.take 2) row).length ≤ _ := step 1 (by omega)
    have h3 : (written (lays.take 3) row).length ≤ _ := step 2 (by omega)
    have := hz2 (by omega)
    omega
  | j + 4, hj => omega
end
end Flow

namespace Flow
open PySem PySem.Spec PyProof.Rows L2
section
variable {P : Program} {w : World} {K : PySem.W.Frag} {mg : Str → Option Value} {base : Heap}
theorem ok_law {fd : FuncData} (T : Tx K mg) (F : FunD K "law" "law" (defArgs s_law) (defBody s_law) (defScope s_law) [] [] (He.ga K "law") fd) : FnOk P w K mg base (L2.CX P w) 18 (He.ga K "law") fd ["_law_script"] (spLaw K) := by
  have D_law_mix := ok_law_mix (P := P) (w := w) (base := base) T
  have D_law_layers := ok_law_layers (P := P) (w := w) (base := base) T
  have D_law_row := ok_law_row (P := P) (w := w) (base := base) T
  have D_law_spoiled := ok_law_spoiled (P := P) (w := w) (base := base) T
  have D_law_is_told := ok_law_is_told (P := P) (w := w) (base := base) T
  have D_law_written := ok_law_written (P := P) (w := w) (base := base) T
  have D_law_all := ok_law_all (P := P) (w := w) (base := base) T
  have D_read := ok_read (P := P) (w := w) (base := base) T
  refine law_ok (N := n_law) F sc_law (fun vs H Q E h => ?_) (fun cdv A outer s H vs Q E hr h => ?_)
  · obtain ⟨a, ns, rfl, _⟩ := h
    rfl
  · obtain ⟨a, s, rfl, hs0, q⟩ := h
    have hs : SqL K H a (iV s) := hs0
    refine ⟨_, [_, _, _, _, _, _], (pss_cons (ps_set (i := 1) sc_law.nd rfl (Or.inl rfl) (pe_fn D_law_layers (g_law_layers T) (hr.mono (by first | decide | omega)) (fun _ => passE) (pa_cons (pv 0) (pa_cons pe_int (pa_cons pe_int pa_nil)))))
      (pss_cons (ps_set (i := 2) sc_law.nd rfl (Or.inl rfl) (pe_fn D_law_spoiled (g_law_spoiled T) (hr.mono (by first | decide | omega)) (fun _ => passE) (pa_cons (pv 0) (pa_cons pe_int (pa_cons (pe_fn D_law_written (g_law_written T) (hr.mono (by first | decide | omega)) (fun _ => passE) (pa_cons (pv 1) (pa_cons (pe_fn D_law_row (g_law_row T) (hr.mono (by first | decide | omega)) (fun _ => passE) (pa_cons (pv 0) (pa_cons pe_int (pa_cons pe_int (pa_cons (pe_cmpR op_lt (pe_callB call_lenS rfl (f_len T) (by decide +kernel) (pa_cons (pv 1) pa_nil)) pe_int (nomark _)) pa_nil))))) pa_nil))) pa_nil)))))
      (pss_cons (ps_if (pt_cmpR op_eq (pe_op op_mod (pe_fn D_law_mix (g_law_mix T) (hr.mono (by first | decide | omega)) (fun _ => passE) (pa_cons (pv 0) (pa_cons pe_int pa_nil))) pe_int) pe_int (nomark _)) (pss_one (ps_set (i := 2) sc_law.nd rfl (Or.inl rfl) (pe_fn D_law_row (g_law_row T) (hr.mono (by first | decide | omega)) (fun _ => passE) (pa_cons (pv 0) (pa_cons pe_int (pa_cons pe_int (pa_cons pe_bl pa_nil))))))) pss_nil)
      (pss_cons (ps_set (i := 3) sc_law.nd rfl (Or.inl rfl) (pe_fn D_law_all (g_law_all T) (hr.mono (by first | decide | omega)) (fun _ => passE) (pa_cons (pv 1) (pa_cons (pv 2) pa_nil))))
      (pss_cons (ps_if (pt_cmpR op_isNS (pv 3) pe_non (nomark _)) (pss_one (ps_ret pe_bl)) pss_nil)
      (pss_cons (ps_set (i := 4) sc_law.nd rfl (Or.inl rfl) (pe_tup (pa_cons (pe_callTy call_listS rfl (f_list T) (by decide +kernel) (pa_cons (pv 1) pa_nil)) (pa_cons (pe_callTy call_listS rfl (f_list T) (by decide +kernel) (pa_cons (pv 2) pa_nil)) pa_nil))))
      (pss_cons (ps_set (i := 5) sc_law.nd rfl (Or.inl rfl) (pe_fn D_read (g_read T) (hr.mono (by first | decide | omega)) (fun σ => passAt (takes_of rfl rfl rfl rfl) σ) (pa_cons (pe_ix ix_tup (pv 4) pe_int (fun _ _ => rfl)) (pa_cons (pe_ix ix_tup (pv 4) pe_int (fun _ _ => rfl)) pa_nil))))
      (pss_one (ps_ret (pe_and (pe_fn D_law_is_told (g_law_is_told T) (hr.mono (by first | decide | omega)) (fun _ => passE) (pa_cons (pv 5) pa_nil)) (pe_and (pe_cmpR (op_eqD hr.units) (pv 5) (pv 3) (nomark _)) (pe_one (pe_cmpR (op_eqD hr.units) (pv 4) (pe_tup (pa_cons (pv 1) (pa_cons (pv 2) pa_nil))) (nomark _)))))))))))))), rfl, ?_⟩
    try dsimp only [cxOf]
    wtm_at "x"
    refine ⟨a, s, 0, 3, rfl, hs, by decide, fun lays ts H1 r hlays e1 hr0 hr hmd => ?_⟩
    have oks := hmd.oks
    have lts : (ts.map V.ref).length = lays.length := by rw [List.length_map, hmd.len]
    wtm_at "x"
    refine ⟨a, s, 20, 9, _, rfl, SqL.ext e1 hs, by decide, fun row H2 rr hby hlen e2 hrr0 hrr => ?_⟩
    have hr2 := e2 r _ hr (by simp)
    have hmd2 := hmd.ext e2
    have hlen2 : row.length ≤ 312 := by omega
    have hlen3 : 2 ≤ lays.length → row.length ≤ 56 := fun z => by
      have := (hlen.2 (by rw [lts]; exact decide_eq_false (by omega))).1
      omega
    wtm_at "x"
    refine ⟨r, rr, ts, lays, row, rfl, SqL.of hr2, hmd.len, fun i t ly h1 h2 => SqT.of (hmd2.at_ i t ly h1 h2), oks, SqL.of hrr, hby, fun j hj => between oks hby hlays hlen2 hlen3 j hj, fun H3 st e3 h3 hor => ?_⟩
    have hst3 : H3 st = some (.lst (iV (written lays row))) := by
      rcases hor with ⟨rfl, hw⟩ | h
      · rw [hw]
        exact e3 _ _ hrr (by simp)
      · exact h
    have bst := written_by (lays := lays) oks hby
    have lst := between oks hby hlays hlen2 hlen3 lays.length (Nat.le_refl _)
    rw [List.take_length] at lst
    have e13 := e2.trans e3
    have hs3 := SqL.ext (e1.trans e13) hs
    wtm_at "x"
    refine ⟨a, s, 50, st, _, rfl, hs3, hst3, bst, by omega, fun rowx H4 rx bx lx e4 hrx => ?_⟩
    have hs4 := SqL.ext e4 hs3
    have e14 := e13.trans e4
    wtm_at "x"
    refine ⟨a, s, 55, rfl, hs4, ?_⟩
    wtm_at "x"
    refine ite_same (J := fun σ' H' => ∃ (rz : Addr) (rowz : Row), σ' = [some (.ref a), some (.ref r), some (.ref rz), none, none, none] ∧ Ext H1 H' ∧ H' rz = some (.lst (iV rowz)) ∧ Bys rowz ∧ rowz.length ≤ 30000) (fun σ' H' h => ?_) (fun N hN => ?_)
    · obtain ⟨rz, rowz, rfl, ez, hrz, bz, lz⟩ := h
      have hmdz := hmd.ext ez
      have hrz1 := ez r _ hr (by simp)
      have hsz := readAll_size lays oks rowz bz
      wtm_at "x"
      refine ⟨r, rz, ts, lays, rowz, rfl, SqL.of hrz1, hmd.len, fun i t ly h1 h2 => SqT.of (hmdz.at_ i t ly h1 h2), oks, by omega, SqL.of hrz, bz, lz, fun H5 e5 => ?_, fun hz2 H5 tp tr fv e5 htp htr hfv => ?_⟩
      · wtm_at "x"
        refine iteT ?_
        wtm_at "x"
        exact q _
      · have hr5 := e5 r _ hrz1 (by simp)
        have hrz5 := e5 rz _ hrz (by simp)
        have hmd5 := hmdz.ext e5
        wtm_at "x"
        refine iteF ?_
        wtm_at "x"
        intro c1 n_c1
        have e_c1 : Ext H5 (upd H5 c1 (.lst (ts.map V.ref))) := Only'.put0 Only'.refl n_c1
        have h_c1 : (upd H5 c1 (.lst (ts.map V.ref))) c1 = some (.lst (ts.map V.ref)) := upd_same
        generalize (upd H5 c1 (.lst (ts.map V.ref))) = H6 at *
        have hrz6 := e_c1 rz _ hrz5 (by simp)
        wtm_at "x"
        intro c2 n_c2
        have e_c2 : Ext H6 (upd H6 c2 (.lst (iV rowz))) := Only'.put0 Only'.refl n_c2
        have h_c2 : (upd H6 c2 (.lst (iV rowz))) c2 = some (.lst (iV rowz)) := upd_same
        generalize (upd H6 c2 (.lst (iV rowz))) = H7 at *
        wtm_at "x"
        intro tq n_tq
        have e_tq : Ext H7 (upd H7 tq (.tup [V.ref c1, V.ref c2])) := Only'.put0 Only'.refl n_tq
        have h_tq : (upd H7 tq (.tup [V.ref c1, V.ref c2])) tq = some (.tup [V.ref c1, V.ref c2]) := upd_same
        generalize (upd H7 tq (.tup [V.ref c1, V.ref c2])) = H8 at *
        have e58 := (e_c1.trans e_c2).trans e_tq
        have hc1 := (e_c2.trans e_tq) c1 _ h_c1 (by simp)
        have hc2 := e_tq c2 _ h_c2 (by simp)
        have hmd8 := hmd5.ext e58
        wtm_at "x"
        refine x_ixT (SqT.of h_tq) (at_of (j := 0) rfl rfl) ?_
        wtm_at "x"
        refine x_ixT (SqT.of h_tq) (at_of (j := 1) rfl rfl) ?_
        wtm_at "x"
        refine x_read (row := rowz) (hmd8.handed hc1) oks (by omega) hc2 bz (by omega) fun H9 tp2 tr2 fv2 e9 htp20 htr20 htp2 htr2 hfv2 => ?_
        wtm_at "x"
        refine ⟨tp2, tr2, fv2, _, rfl, htp2, htr2, hsz.2, by omega, hfv2.or, fun H10 e10 => ?_⟩
        have e510 := (e58.trans e9).trans e10
        wtm_at "x"
        refine x_eqD (dp_told (e10 tp2 _ htp2 (by simp)) (e10 tr2 _ htr2 (by simp)) (hfv2.ext e10)) (dp_told (e510 tp _ htp (by simp)) (e510 tr _ htr (by simp)) (hfv.ext e510)) (told_shaped _ _) (told_shaped _ _) ?_
        rw [told_eqv, decide_eq_true rfl, decide_eq_true rfl]
        wtm_at "x"
        try refine iteT ?_
        wtm_at "x"
        intro tw n_tw
        have e_tw : Ext H10 (upd H10 tw (.tup [V.ref r, V.ref rz])) := Only'.put0 Only'.refl n_tw
        have h_tw : (upd H10 tw (.tup [V.ref r, V.ref rz])) tw = some (.tup [V.ref r, V.ref rz]) := upd_same
        generalize (upd H10 tw (.tup [V.ref r, V.ref rz])) = H11 at *
        have e511 := e510.trans e_tw
        have e811 := (e9.trans e10).trans e_tw
        have hmd11 := hmd5.ext e511
        refine x_eqD (d := handD lays rowz) (e := handD lays rowz) (.tup (SqT.of (e811 tq _ h_tq (by simp))) (.cons (hmd11.dp (SqL.of (e811 c1 _ hc1 (by simp)))) (.cons (dp_row (SqL.of (e811 c2 _ hc2 (by simp)))) .nil)))
          (.tup (SqT.of h_tw) (.cons (hmd11.dp (SqL.of (e511 r _ hr5 (by simp)))) (.cons (dp_row (SqL.of (e511 rz _ hrz5 (by simp)))) .nil))) (hand_shaped _ _) (hand_shaped _ _) ?_
        rw [hand_same]
        exact q _
    · refine ite_d (fun _ => ?_) fun _ => ?_
      · wtm_at "x"
        refine ⟨a, s, 20, 14, false, rfl, hs4, by decide, fun row7 H7 rz hby7 ⟨_, hlen7⟩ e7 hrz0 hrz => ?_⟩
        wtm_at "x"
        exact hN _ _ ⟨rz, row7, rfl, e14.trans e7, hrz, hby7, by have := (hlen7 rfl).1; omega⟩
      · wtm_at "x"
        exact hN _ _ ⟨rx, rowx, rfl, e14, hrx, bx, by omega⟩
end
end Flow

namespace Flow
open PySem PySem.Spec PyProof.Rows L2
theorem law_facts {P : Program} {w : World} {K : PySem.W.Frag} {h : Heap} {mg : Str → Option Value} {f : Addr} (X : K.In h) (G : h.Ns mainGlobals mg) (hfa : mg ("law" : Str) = some (.ref f)) (c : He.SaysX fa fn [] [] exB w h K) :
    ∃ fd : FuncData, (∀ (s : Shared) (v : Value), BindsTo s fd ⟨[v], []⟩ [("_law_script", v)]) ∧ ∀ base : Heap, K.In base → base.Ns mainGlobals mg → FnOk P w K mg base CX0 18 f fd ["_law_script"] (fun vs H Q _ => spLaw K vs H Q E0) := by
  have T : Tx K mg := ⟨c.t.d, c.more, ⟨h, X, G⟩⟩
  obtain ⟨fd, F⟩ := fn_law T
  have e := hfa.symm.trans (g_law T)
  cases e
  have b := FunD.bindsA (ps := ["_law_script"]) F fun _ _ _ _ _ _ us hl => match us, hl with | [_], _ => rfl
  exact ⟨fd, fun s v => b s [v] rfl, fun base _ _ => nox (ok_law T F)⟩
end Flow
open PySem PySem.W PySem.Calls PyProof.Rows
theorem PySem.Challenge.cw_flowstack_k03_read_holds : PySem.Challenge.rw_flowstack_k03_read.Holds := by
  w_on; o_law
  refine HandSHeadRun.head_any (r := OpenLaw.row PySem.Challenge.rw_flowstack_k03_read) (q := view (OpenLaw.row PySem.Challenge.rw_flowstack_k03_read).prog [59]) (H := Flow.hk) (ob := Flow.ob) (M := 20000) (loose := Flow.loose) (d := HandSHeadRun.topDef (OpenLaw.row PySem.Challenge.rw_flowstack_k03_read).prog 59) (kwd := []) Flow.ob_eq
    (by kernel_rfl) (fun s => by kernel_rfl) Flow.run (by kernel_rfl) (by kernel_rfl) (by kernel_rfl) (by rfl) (by first | assumption | decide +kernel) (by decide +kernel) ⟨rfl, rfl, rfl, rfl, rfl, by decide +kernel⟩ ?hw ?hc
  case hw => w_witness2
  case hc =>
    refine L2.walk_ofE (l := PySem.Challenge.rw_flowstack_k03_read) (n := 63) (k := 18) (x := "_law_script") (CX := L2.CX0) rfl (by decide) (by kernel_rfl) ⟨rfl, by decide, by decide⟩ ?F (fun _ _ _ _ z => z)
    intro w mg fa h Y G hmg0
    obtain ⟨K, KX, c⟩ := Y
    have hmg : mg ("law" : PySem.Str) = some (.ref fa) := by
      have e : (HandSHeadRun.topDef (OpenLaw.row PySem.Challenge.rw_flowstack_k03_read).prog 59).name = ("law" : PySem.Str) := by kernel_rfl
      rw [← e]
      exact hmg0
    obtain ⟨fd, hb, hF⟩ := Flow.law_facts (P := (PySem.Challenge.rw_flowstack_k03_read).prog) (w := w) KX G hmg c
    exact ⟨K, fd, _, KX, hb, fun H a ns hl _ hS => ⟨a, ns, rfl, hS, fun _ => rfl⟩, hF⟩
