import PyProof.Rows.All
import Wide.All
import OpenK.AllK
import Wide.FinOn
import PySem.Challenge.RW_flowstack_k14_whole_faults_in_pieces
import KE.KStateDown
import Lean
import HandS.ForMost
import HandS.Exc
import HandS.ExcOwn
import HandS.ExcInit
import HandS.ExcField
import HandS.TryOnly
import HandS.TryMany
import HandS.WordsExc
import HandS.RevRange
import HandS.Strs
import HandS.Conv
import HandS.More
import HandS.Defaults
import HandS.IsInst
import HandS.Deep
import HandS.SetFor
import HandS.Zip
import HandS.Head0
import HandS.Head1
import HandS.Head2
import HandS.HeadEnd
import HandS.HeadHook1
import HandS.HeadHook2
import HandS.HeadHook3
import HandS.HeadHook4
import HandS.Iter
set_option Elab.async false
set_option linter.all false
set_option maxRecDepth 100000
set_option maxHeartbeats 4000000
/-! the base of our own: promises with their binding, calls by them, steps of readings -/
namespace Flow
open PySem PySem.Spec PyProof.Rows L2

/-- a def that keeps a promise, and how it binds -/
structure DefOk (P : Program) (w : World) (K : PySem.W.Frag) (mg : Str → Option Value) (base : Heap) (k : Nat) (f : Addr) (ps : List Str) (sp : Sp) : Prop where
  ex : ∃ fd, FnOk P w K mg base (L2.CX P w) k f fd ps sp ∧ Binds K fd ps []
  kp : PySem.W.keepIn K (.ref f) = true
structure MethOk (P : Program) (w : World) (K : PySem.W.Frag) (mg : Str → Option Value) (base : Heap) (k : Nat) (C : Addr) (m : Str) (ps : List Str) (sp : Sp) : Prop where
  cls : Cls K C
  ex : ∃ f, Meth K C m f ∧ DefOk P w K mg base k f ps sp
structure MakeOk (P : Program) (w : World) (K : PySem.W.Frag) (mg : Str → Option Value) (base : Heap) (k : Nat) (C : Addr) (ps : List Str) (sp : Sp) : Prop where
  ex : ∃ f, Mk K C f ∧ DefOk P w K mg base k f ps sp
section
variable {P : Program} {w : World} {K : PySem.W.Frag} {mg : Str → Option Value} {base : Heap} {k j : Nat} {f C : Addr} {m : Str} {ps : List Str} {sp sp' : Sp}
theorem DefOk.mono (D : DefOk P w K mg base j f ps sp) (h : j ≤ k) : DefOk P w K mg base k f ps sp := by
  obtain ⟨⟨fd, F, b⟩, kp⟩ := D
  exact ⟨⟨fd, F.mono h, b⟩, kp⟩
theorem DefOk.imp (D : DefOk P w K mg base k f ps sp) (h : ∀ vs H Q E, sp' vs H Q E → sp vs H Q E) : DefOk P w K mg base k f ps sp' := by
  obtain ⟨⟨fd, F, b⟩, kp⟩ := D
  exact ⟨⟨fd, F.imp h, b⟩, kp⟩
theorem MethOk.mono (D : MethOk P w K mg base j C m ps sp) (h : j ≤ k) : MethOk P w K mg base k C m ps sp := by
  obtain ⟨c, f, M, D⟩ := D
  exact ⟨c, f, M, D.mono h⟩
theorem MethOk.imp (D : MethOk P w K mg base k C m ps sp) (h : ∀ vs H Q E, sp' vs H Q E → sp vs H Q E) : MethOk P w K mg base k C m ps sp' := by
  obtain ⟨c, f, M, D⟩ := D
  exact ⟨c, f, M, D.imp h⟩
theorem MakeOk.mono (D : MakeOk P w K mg base j C ps sp) (h : j ≤ k) : MakeOk P w K mg base k C ps sp := by
  obtain ⟨f, M, D⟩ := D
  exact ⟨f, M, D.mono h⟩
theorem MakeOk.imp (D : MakeOk P w K mg base k C ps sp) (h : ∀ vs H Q E, sp' vs H Q E → sp vs H Q E) : MakeOk P w K mg base k C ps sp' := by
  obtain ⟨f, M, D⟩ := D
  exact ⟨f, M, D.imp h⟩
/-- THE RULE for a def of the text -/
theorem def_ok {x qual : Str} {st : Stmt} {N : List Str} (F : ∃ fd, FunD K x qual (defArgs st) (defBody st) (defScope st) [] [] f fd) (S : FnScope N ps (defScope st))
    (hb : ∀ (kV doc pm : Value) (an : Option Addr) (cdv ct : Value) (us : List Value), us.length = ps.length → bindArgs (PySem.W.fnOf x qual (defArgs st) (defBody st) (defScope st) .none kV doc pm an cdv ct) ⟨us, []⟩ = pure (ps.zip us))
    (len : ∀ vs H Q E, sp vs H Q E → vs.length = ps.length)
    (hbody : ∀ (cdv : Value) (A : Around) (outer : List Env) (s : Shared) (H : Hp) (vs : List V) (Q : VK) (E : XK), Room k (A.deeper (envOfC qual (defScope st) s.heap.objs.size f cdv)) → sp vs H Q E →
      ∃ (t : TS) (σ : L2.St), PSs (cxOf (L2.CX P w) P w K mg base N qual (defScope st) f cdv A outer s H E) (defBody st) t ∧ σ = start N vs ∧ t { nx := fun _ H' => Q .non H', rt := Q } σ H) : DefOk P w K mg base (k + 1) f ps sp := by
  obtain ⟨fd, F⟩ := F
  exact ⟨⟨fd, F.ok S len fun cdv A outer s H vs Q E hr h => by
    obtain ⟨t, σ, a, e, b⟩ := hbody cdv A outer s H vs Q E hr h
    subst e
    exact ⟨t, a, b⟩, F.bindsN hb⟩, F.kp⟩
end

/-! ### calls -/
def tFn (sp : Sp) (E : L2.St → XK) (t : TA) : TE := fun σ H Q => t σ H fun vs H1 => sp vs H1 Q (E σ)
def tMm (ok : Addr → Prop) (m : Str) (sp : Addr → Sp) (E : L2.St → XK) (ta : TE) (t : TA) : TE := fun σ H Q => ta σ H fun x H1 => ∃ a C dx fs, x = .ref a ∧ H1 a = some (.ins C dx fs) ∧ ok C ∧ fs.lookup m = none ∧
  t σ H1 fun vs H2 => sp C (x :: vs) H2 Q (E σ)
def tMk (C : Addr) (sp : Sp) (E : L2.St → XK) (t : TA) : TE := fun σ H Q => t σ H fun vs H1 => ∀ x dx, H1 x = none → H1 dx = none → dx ≠ x →
  sp (.ref x :: vs) (upd (upd H1 dx (.own x)) x (.ins C dx [])) (fun v H2 => v = .non ∧ Q (.ref x) H2) (E σ)
section
variable {X : Cx} {k : Nat} {f C : Addr} {fd : FuncData} {ps : List Str} {sp : Sp} {spC : Addr → Sp} {E : L2.St → XK} {x m : Str} {p pos apos : Pos} {e o : Expr} {es : List Expr} {ta : TE} {t : TA} {ok : Addr → Prop}
theorem passE {σ : L2.St} : PassesAt (L2.CX X.prog X.w) X σ E0 := fun _ _ _ _ _ _ h => by
  obtain ⟨_, _, _, _, _, _, _, _, _, _, _, _, z⟩ := h
  exact z.elim
theorem run_d {pins : List (Addr × Obj)} {σ : L2.St} {H : Hp} {s : Shared} {Q : VK} {us : List Value} {vs : List V} (D : DefOk X.prog X.w X.K X.mg X.base k f ps sp) (hr : Room k X.A) (hx : ∀ σ, PassesAt (L2.CX X.prog X.w) X σ (E σ))
    (I : Inv X pins σ H s) (r : Vals vs us) (h : sp vs H Q (E σ)) : wpAny (model X.prog X.w) X.A (call (.ref f) us) (EP X pins σ Q) X.xe s := by
  obtain ⟨⟨fd, F, hb⟩, kp⟩ := D
  exact run_fnS F hr hb (hx σ) I r h
theorem pe_fn (D : DefOk X.prog X.w X.K X.mg X.base k f ps sp) (hm : X.mg x = some (.ref f)) (hr : Room k X.A) (hx : ∀ σ, PassesAt (L2.CX X.prog X.w) X σ (E σ)) (ha : PA X (e :: es) t) (hg : Gl X x := by rfl)
    (hdb : (x == ("__debug__" : Str)) = false := by decide) (he : starEach (e :: es) X.env = (false, eval e X.env) :: starEach es X.env := by rfl) (hpl : (backTo pos (starEach es X.env)).any (·.1) = false := by rfl) :
    PE X (.Call (.Name x p) (e :: es) [] pos) (tFn sp E t) := by
  refine ⟨fun pins s σ H Q I h => ?_⟩
  refine wpAny_Call_Name_kw (ld_glob I hg hm ?_ hdb)
  refine PySem.W.callWith_K (h₀ := X.base) I.ok.mod.kin D.kp (thn (ha.run pos pins s σ H _ I h) fun us s1 ⟨vs, H1, I1, r, q⟩ => ⟨I1.kIn, ?_⟩) he hpl
  exact run_d D hr hx I1 r q
theorem pe_fn0 (D : DefOk X.prog X.w X.K X.mg X.base k f ps sp) (hm : X.mg x = some (.ref f)) (hr : Room k X.A) (hx : ∀ σ, PassesAt (L2.CX X.prog X.w) X σ (E σ)) (hg : Gl X x := by rfl)
    (hdb : (x == ("__debug__" : Str)) = false := by decide) : PE X (.Call (.Name x p) [] [] pos) (tFn sp E tNil) := by
  refine ⟨fun pins s σ H Q I h => ?_⟩
  refine wpAny_Call_Name_kw (ld_glob I hg hm ?_ hdb)
  exact PySem.W.callWith_K0 I.kIn D.kp (run_d (us := []) D hr hx I .nil h)
theorem pe_mm {pl : Sem Bool} (D : ∀ C, ok C → MethOk X.prog X.w X.K X.mg X.base k C m ps (spC C)) (hr : Room k X.A) (hx : ∀ σ, PassesAt (L2.CX X.prog X.w) X σ (E σ)) (he : PE X o ta) (ha : PA X (e :: es) t)
    (hst : starEach (e :: es) X.env = (false, eval e X.env) :: starEach es X.env := by rfl) (hpl : (backTo pos (starEach es X.env)).any (·.1) = false := by rfl)
    (ht : eval (.Call (.Attribute o m apos) (e :: es) [] pos) X.env = (do
      let ov ← eval o X.env
      standAt apos.atName
      let (f, first) ← holding [ov] (getMethod ov m pl)
      callWith pos f first (backTo pos (starEach (e :: es) X.env)) (backToKw pos (keywordEach [] X.env))) := by rfl) :
    PE X (.Call (.Attribute o m apos) (e :: es) [] pos) (tMm ok m spC E ta t) := by
  refine ⟨fun pins s σ H Q I h => ?_⟩
  refine PySem.W.methodCall_KW (pl := pl) (thn (he.run pins s σ H _ I h) fun u s1 ⟨x, H1, I1, rx, a, C, dx, fs, ex, ea, hC, l, q⟩ => ?_) ht
  subst ex
  obtain rfl : u = Value.ref a := rx
  obtain ⟨c, f, hm, D⟩ := D C hC
  refine getmeth_ok I1 ea c hm l ?_
  refine PySem.W.callWith_K (first := [.ref a]) (h₀ := X.base) I.ok.mod.kin hm.kp (thn (ha.run pos pins s1 σ H1 _ I1 q) fun us s2 ⟨vs, H2, I2, r, q2⟩ => ⟨I2.kIn, ?_⟩) hst hpl
  exact run_d (us := .ref a :: us) (vs := .ref a :: vs) D hr hx I2 (.cons rfl r) q2
theorem pe_mm0 {pl : Sem Bool} (D : ∀ C, ok C → MethOk X.prog X.w X.K X.mg X.base k C m ps (spC C)) (hr : Room k X.A) (hx : ∀ σ, PassesAt (L2.CX X.prog X.w) X σ (E σ)) (he : PE X o ta)
    (ht : eval (.Call (.Attribute o m apos) [] [] pos) X.env = (do
      let ov ← eval o X.env
      standAt apos.atName
      let (f, first) ← holding [ov] (getMethod ov m pl)
      callWith pos f first (backTo pos (starEach [] X.env)) (backToKw pos (keywordEach [] X.env))) := by rfl) :
    PE X (.Call (.Attribute o m apos) [] [] pos) (tMm ok m spC E ta tNil) := by
  refine ⟨fun pins s σ H Q I h => ?_⟩
  refine PySem.W.methodCall_KW (pl := pl) (thn (he.run pins s σ H _ I h) fun u s1 ⟨x, H1, I1, rx, a, C, dx, fs, ex, ea, hC, l, q⟩ => ?_) ht
  subst ex
  obtain rfl : u = Value.ref a := rx
  obtain ⟨c, f, hm, D⟩ := D C hC
  refine getmeth_ok I1 ea c hm l ?_
  exact PySem.W.callWith_K0 (first := [.ref a]) I1.kIn hm.kp (run_d (us := [.ref a]) (vs := [.ref a]) D hr hx I1 (.cons rfl .nil) q)
/-- o.m(e, ..), the promise chosen by the reading -/
def tMu (P : Program) (w : World) (K : PySem.W.Frag) (mg : Str → Option Value) (base : Heap) (k : Nat) (m : Str) (ps : List Str) (E : L2.St → XK) (ta : TE) (t : TA) : TE := fun σ H Q => ta σ H fun x H1 => ∃ (a C dx : Addr) (fs : List (Str × V)) (sp : Sp), x = .ref a ∧ H1 a = some (.ins C dx fs) ∧
  MethOk P w K mg base k C m ps sp ∧ fs.lookup m = none ∧ t σ H1 fun vs H2 => sp (x :: vs) H2 Q (E σ)
theorem pe_mu {pl : Sem Bool} (k : Nat) (ps : List Str) (hr : Room k X.A) (hx : ∀ σ, PassesAt (L2.CX X.prog X.w) X σ (E σ)) (he : PE X o ta) (ha : PA X (e :: es) t)
    (hst : starEach (e :: es) X.env = (false, eval e X.env) :: starEach es X.env := by rfl) (hpl : (backTo pos (starEach es X.env)).any (·.1) = false := by rfl)
    (ht : eval (.Call (.Attribute o m apos) (e :: es) [] pos) X.env = (do
      let ov ← eval o X.env
      standAt apos.atName
      let (f, first) ← holding [ov] (getMethod ov m pl)
      callWith pos f first (backTo pos (starEach (e :: es) X.env)) (backToKw pos (keywordEach [] X.env))) := by rfl) :
    PE X (.Call (.Attribute o m apos) (e :: es) [] pos) (tMu X.prog X.w X.K X.mg X.base k m ps E ta t) := by
  refine ⟨fun pins s σ H Q I h => ?_⟩
  refine PySem.W.methodCall_KW (pl := pl) (thn (he.run pins s σ H _ I h) fun u s1 ⟨x, H1, I1, rx, a, C, dx, fs, sp, ex, ea, D, l, q⟩ => ?_) ht
  subst ex
  obtain rfl : u = Value.ref a := rx
  obtain ⟨c, f, hm, D⟩ := D
  refine getmeth_ok I1 ea c hm l ?_
  refine PySem.W.callWith_K (first := [.ref a]) (h₀ := X.base) I.ok.mod.kin hm.kp (thn (ha.run pos pins s1 σ H1 _ I1 q) fun us s2 ⟨vs, H2, I2, r, q2⟩ => ⟨I2.kIn, ?_⟩) hst hpl
  exact run_d (us := .ref a :: us) (vs := .ref a :: vs) D hr hx I2 (.cons rfl r) q2
theorem pe_mu0 {pl : Sem Bool} (k : Nat) (ps : List Str) (hr : Room k X.A) (hx : ∀ σ, PassesAt (L2.CX X.prog X.w) X σ (E σ)) (he : PE X o ta)
    (ht : eval (.Call (.Attribute o m apos) [] [] pos) X.env = (do
      let ov ← eval o X.env
      standAt apos.atName
      let (f, first) ← holding [ov] (getMethod ov m pl)
      callWith pos f first (backTo pos (starEach [] X.env)) (backToKw pos (keywordEach [] X.env))) := by rfl) :
    PE X (.Call (.Attribute o m apos) [] [] pos) (tMu X.prog X.w X.K X.mg X.base k m ps E ta tNil) := by
  refine ⟨fun pins s σ H Q I h => ?_⟩
  refine PySem.W.methodCall_KW (pl := pl) (thn (he.run pins s σ H _ I h) fun u s1 ⟨x, H1, I1, rx, a, C, dx, fs, sp, ex, ea, D, l, q⟩ => ?_) ht
  subst ex
  obtain rfl : u = Value.ref a := rx
  obtain ⟨c, f, hm, D⟩ := D
  refine getmeth_ok I1 ea c hm l ?_
  exact PySem.W.callWith_K0 (first := [.ref a]) I1.kIn hm.kp (run_d (us := [.ref a]) (vs := [.ref a]) D hr hx I1 (.cons rfl .nil) q)
theorem run_mk {pins : List (Addr × Obj)} {σ : L2.St} {H : Hp} {s : Shared} {Q : VK} {us : List Value} {vs : List V} (M : Mk X.K C f) (D : DefOk X.prog X.w X.K X.mg X.base k f ps sp) (hr : Room (k + 1) X.A)
    (hx : ∀ (pins : List (Addr × Obj)) (σ : L2.St) (H : Hp) (s : Shared) (e : Value) (s' : Shared), Inv X pins σ H s → L2.CX X.prog X.w X.stack H s (E σ) e s' → X.xe e s') (I : Inv X pins σ H s) (r : Vals vs us)
    (h : ∀ x dx, H x = none → H dx = none → dx ≠ x → sp (.ref x :: vs) (upd (upd H dx (.own x)) x (.ins C dx [])) (fun v H2 => v = .non ∧ Q (.ref x) H2) (E σ)) :
    wpAny (model X.prog X.w) X.A (call (.ref C) us) (EP X pins σ Q) X.xe s := by
  obtain ⟨⟨fd, F, hb⟩, kp⟩ := D
  have hq := h (s.heap.objs.size + 1) s.heap.objs.size (I.hok.fresh (Nat.le_succ _)) (I.hok.fresh (Nat.le_refl _)) (Nat.ne_of_lt (Nat.lt_succ_self _))
  have I2 := Inv.made (C := C) I
  have r2 : Vals (V.ref (s.heap.objs.size + 1) :: vs) (Value.ref (s.heap.objs.size + 1) :: us) := .cons rfl r
  have hl : (Value.ref (s.heap.objs.size + 1) :: us ++ []).length = ps.length := by
    have e := r2.length
    rw [F.len _ _ _ _ hq] at e
    rw [List.append_nil]
    exact e.symm
  have hb2 := hb ⟨(s.heap.push PySem.W.emptyDict).push (PySem.W.instObj C s.heap.objs.size), s.gens, s.drawn, s.toks, s.os⟩ (Value.ref (s.heap.objs.size + 1) :: us) I2.kIn hl
  rw [List.append_nil] at hb2
  refine wpAny_call (make_map (f := f) I.kIn M.makes M.init (beq_iff_eq.mp M.fn) (codeAny_mono (F.run _ X.stack _ _ ⟨Value.ref (s.heap.objs.size + 1) :: us, []⟩ (Value.ref (s.heap.objs.size + 1) :: us) _ _ (E σ) (hr.make C us [])
    (I2.env0.make C us []) hb2 r2 hq) fun r s' hq' => ?_))
  cases r with
  | error e => exact hx pins σ _ _ e s' I2 hq'
  | ok fl =>
    cases fl with
    | ret u =>
      obtain ⟨v, H', I3, rv, ev, q3⟩ := I2.after hq'
      subst ev
      exact ⟨rv, ⟨V.ref (s.heap.objs.size + 1), H', I3, rfl, q3⟩⟩
    | next => exact False.elim hq'
    | brk => exact False.elim hq'
    | cont => exact False.elim hq'
theorem pe_mk (D : MakeOk X.prog X.w X.K X.mg X.base k C ps sp) (hm : X.mg x = some (.ref C)) (hr : Room (k + 1) X.A) (hx : ∀ σ, PassesAt (L2.CX X.prog X.w) X σ (E σ)) (ha : PA X (e :: es) t) (hg : Gl X x := by rfl)
    (hdb : (x == ("__debug__" : Str)) = false := by decide) (he : starEach (e :: es) X.env = (false, eval e X.env) :: starEach es X.env := by rfl) (hpl : (backTo pos (starEach es X.env)).any (·.1) = false := by rfl) :
    PE X (.Call (.Name x p) (e :: es) [] pos) (tMk C sp E t) := by
  obtain ⟨f, M, D⟩ := D
  refine ⟨fun pins s σ H Q I h => ?_⟩
  refine wpAny_Call_Name_kw (ld_glob I hg hm ?_ hdb)
  refine PySem.W.callWith_K (h₀ := X.base) I.ok.mod.kin M.kp (thn (ha.run pos pins s σ H _ I h) fun us s1 ⟨vs, H1, I1, r, q⟩ => ⟨I1.kIn, ?_⟩) he hpl
  exact run_mk M D hr (fun pins σ H s e s' I c => hx σ pins H s e s' I c) I1 r q
theorem pe_mk0 (D : MakeOk X.prog X.w X.K X.mg X.base k C ps sp) (hm : X.mg x = some (.ref C)) (hr : Room (k + 1) X.A) (hx : ∀ σ, PassesAt (L2.CX X.prog X.w) X σ (E σ)) (hg : Gl X x := by rfl)
    (hdb : (x == ("__debug__" : Str)) = false := by decide) : PE X (.Call (.Name x p) [] [] pos) (tMk C sp E tNil) := by
  obtain ⟨f, M, D⟩ := D
  refine ⟨fun pins s σ H Q I h => ?_⟩
  refine wpAny_Call_Name_kw (ld_glob I hg hm ?_ hdb)
  exact PySem.W.callWith_K0 I.kIn M.kp (run_mk (us := []) M D hr (fun pins σ H s e s' I c => hx σ pins H s e s' I c) I .nil h)
end
end Flow

/-! errors of our own with fields, except clauses with and without names, index in a tuple of ints -/
namespace Flow
open PySem PySem.Spec PyProof.Rows L2
def oexB (K : PySem.W.Frag) (C : Addr) : Bool := (match K.lookup C with
  | some ⟨.type "type", _, .cls cd, sl⟩ => (match cd.mro, sl.toList with
    | .ref C' :: bm, [_, _, _, _, some (.builtin n), _] => C' == C && n == "ValueError.__new__" && !cd.hasDel && cd.hasDict && PySem.HandSPX.refsVE bm
    | _, _ => false)
  | _ => false) && decide (PySem.W.findIn K (.ref C) "__setattr__" = some (some (.builtin "object.__setattr__"))) && decide (PySem.W.subIn K (.ref C) (.type "BaseException") = some true) && decide (PySem.W.typeIn K (.ref C) = some (.type "type")) && PySem.W.keepIn K (.ref C)
theorem oexB_ok {K : PySem.W.Frag} {C : Addr} (h : oexB K C = true) : OexC K C := by
  unfold oexB at h
  simp only [Bool.and_eq_true, decide_eq_true_eq] at h
  obtain ⟨⟨⟨⟨q, h2⟩, h3⟩, h4⟩, h5⟩ := h
  refine ⟨?_, h2, h3, h4, h5⟩
  split at q
  · rename_i dd cd sl ho
    split at q
    · rename_i C' bm k0 k1 k2 k3 n k5 hm hs
      simp only [Bool.and_eq_true, beq_iff_eq, Bool.not_eq_true'] at q
      obtain ⟨⟨⟨⟨rfl, rfl⟩, hdel⟩, hdi⟩, ht⟩ := q
      obtain ⟨nm, bs, mro, ns, qn, hd, sn, sub, ab, col, del⟩ := cd
      dsimp only at hm hdel hdi ht
      subst hm hdel hdi
      have hsl : sl = #[k0, k1, k2, k3, some (.builtin "ValueError.__new__"), k5] := by
        obtain ⟨l⟩ := sl
        simp only at hs
        rw [hs]
      subst hsl
      exact ⟨nm, qn, ns, bs, bm, sn, sub, ab, col, dd, k0, k1, k2, k3, k5, ho, ht⟩
    · cases q
  · cases q

/-! ### several except clauses, with and without a name -/
inductive Clause where
  | bare (c : Value) (ts : Addr → Value → Option Addr → TS)
  | named (i : Nat) (c : Value) (ts : Addr → Value → Option Addr → TS)
def wEach (K : PySem.W.Frag) (Wout : WX) (D : Ends) : List Clause → WX
  | [] => Wout
  | .bare c ts :: r => fun cls d σ H => ∃ b, PySem.W.exmOne K cls c = some b ∧ (b = true → ∀ a, H a = none → ts a cls d D σ H) ∧ (b = false → wEach K Wout D r cls d σ H)
  | .named i c ts :: r => fun cls d σ H => ∃ b, PySem.W.exmOne K cls c = some b ∧
      (b = true → ∀ a, H a = none → ts a cls d { nx := fun σ' H' => D.nx (σ'.set i none) H', rt := D.rt, bk := fun σ' H' => D.bk (σ'.set i none) H', ct := fun σ' H' => D.ct (σ'.set i none) H' } (σ.set i (some (.ref a))) H) ∧
      (b = false → wEach K Wout D r cls d σ H)
inductive Clauses (X : Cx) : List ExceptHandler → List Clause → Prop
  | nil : Clauses X [] []
  | bare {x : Str} {c : Value} {ts : Addr → Value → Option Addr → TS} {b₀ : Stmt} {suite : List Stmt} {np pos' : Pos} {hds : List ExceptHandler} {l : List Clause} (hc : Names X x c)
      (hsu : ∀ (a : Addr) (oe : Obj) (cls : Value) (d : Option Addr) (pn : List (Addr × Obj)), Zc cls d oe → (∃ vs, oe.data = .fields vs) → PSs (X.suite a ((a, oe) :: pn)) (b₀ :: suite) (ts a cls d)) (r : Clauses X hds l) :
      Clauses X (.ExceptHandler (some (.Name x np)) none (b₀ :: suite) pos' :: hds) (.bare c ts :: l)
  | named {x n : Str} {i : Nat} {c : Value} {ts : Addr → Value → Option Addr → TS} {b₀ : Stmt} {suite : List Stmt} {np pos' : Pos} {hds : List ExceptHandler} {l : List Clause} (hN : X.N.Nodup) (hi : X.N[i]? = some n) (hln : X.env.kindOf n = some .local) (hc : Names X x c)
      (hsu : ∀ (a : Addr) (oe : Obj) (cls : Value) (d : Option Addr) (pn : List (Addr × Obj)), Zc cls d oe → (∃ vs, oe.data = .fields vs) → PSs (X.suite a ((a, oe) :: pn)) (b₀ :: suite) (ts a cls d)) (r : Clauses X hds l) :
      Clauses X (.ExceptHandler (some (.Name x np)) (some n) (b₀ :: suite) pos' :: hds) (.named i c ts :: l)
section
variable {X : Cx} {body : List Stmt} {h₀ : ExceptHandler} {hds : List ExceptHandler} {l : List Clause} {pos : Pos} {tb : WX → TS} {Wout : WX}
theorem ps_try_each (hs : X.stack = X.env :: X.outer) (hf : X.env.frame = some X.env.locals) (tk : Takes X Wout)
    (hb : ∀ (W : WX) (pn : List (Addr × Obj)) (xe : Value → Shared → Prop), Takes (X.tr pn xe) W → PassesOwn (model X.prog X.w) X.A X.env xe → PSs (X.tr pn xe) body (tb W))
    (hh : Clauses X (h₀ :: hds) l) : PS X (.Try body (h₀ :: hds) [] [] pos) (fun D σ H => tb (wEach X.K Wout D l) D σ H) := by
  refine ⟨fun pins s σ H D I h => ?_⟩
  have ok := I.ok
  have hfr : X.A.frames = some (X.env :: X.outer) := by rw [ok.frames, hs]
  refine wpAny_Try_except ?_
  refine wpAny_mono ((hb (wEach X.K Wout D l) (X.pn ++ pins) (fun e s₁ => wpAny (model X.prog X.w) X.A (noteFrame e X.env) (fun _ s₂ => wpAny (model X.prog X.w) X.A (setFlight e none) (fun _ s₃ =>
    wpAny (model X.prog X.w) X.A (handleBy e X.env (h₀ :: hds)) (SP X pins D) X.xe s₃) X.xe s₂) X.xe s₁) (fun u s' xx => ?_) PassesOwn.looking).run [] s σ H D (I.toTry _) h) (fun f s1 hsp => ?_) (fun e s1 he => he)
  · -- the catch
    obtain ⟨a, B, sI, pins', σ', H', cls, d, rfl, J', nb, up, sky, na, os, ag, w⟩ := xx
    have J : Inv X pins σ' H' sI := J'.ofTry ok
    have sky' : Sky B (X.env :: X.outer) a (Zc cls d) X.env.locals s'.heap := by rw [← hs]; exact sky
    show wpAny (model X.prog X.w) X.A (noteFrame (.ref a) X.env) _ _ _
    refine Sky.land Zc.steady hfr hf sky' fun h3 fl3 up3 => ?_
    have J3 : Inv X pins σ' H' { s' with heap := h3 } := J.landed nb fl3.1 (up.trans up3) os ag
    obtain ⟨oe3, vs3, he3, hz3, hd3⟩ := fl3.there
    have notFr : ∀ {h : Heap} {o : Obj} {vs : Array Value}, h.FunFrames B (X.env :: X.outer) → h.get? a = some o → o.data = .fields vs → a ∉ frs (X.env :: X.outer) := fun {h o vs} ff e dd hm => by
      obtain ⟨_, o', e', hnf⟩ := ff.mem hm
      rw [e] at e'; cases e'
      exact hnf _ dd
    have nfr := notFr fl3.2.2.1 he3 hd3
    have nL : a ≠ X.env.locals := fun z => nfr (List.mem_filterMap.mpr ⟨X.env, List.mem_cons_self, by rw [hf, z]⟩)
    have nF : a ∉ X.fs := fun hm => by
      obtain ⟨e, he, q⟩ := List.mem_filterMap.mp hm
      exact nfr (List.mem_filterMap.mpr ⟨e, List.mem_cons_of_mem _ he, q⟩)
    have S3 := J3.suite he3 hd3 na nL nF
    have go : ∀ {hds' : List ExceptHandler} {l' : List Clause}, Clauses X hds' l' → wEach X.K Wout D l' cls d σ' H' →
        wpAny (model X.prog X.w) X.A (handleBy (.ref a) X.env hds') (SP X pins D) X.xe { s' with heap := h3 } := by
      intro hds' l' hk
      induction hk with
      | nil =>
        intro w
        refine wpAny_handleBy_nil ?_
        obtain ⟨k1, k2, k3, oe, vs, T, oT, ts', he, hz, hd, h1, hr⟩ := id fl3
        unfold PySem.passOn
        refine wpAny_bind (wpAny_field he hd h1 ?_)
        rw [if_neg (show ¬ ((Value.ref T == Value.none) = true) from by simp)]
        have fin : wpAny (model X.prog X.w) X.A (setFlight (.ref a) X.env.frame) (fun _ s4 => wpAny (model X.prog X.w) X.A (throw (.ref a) : Sem Flow) (SP X pins D) X.xe s4) X.xe { s' with heap := h3 } := by
          rw [hf]
          refine HandSPX.setFlight_upZ fl3 fun h4 hh4 up4 => wpAny_throw (tk _ _ ?_)
          exact ⟨a, B, sI, pins, σ', H', cls, d, rfl, J, nb, (up.trans up3).trans up4, .inr (.inr (by rw [hs]; exact hh4)), na, os, ag, w⟩
        first
          | exact wpAny_bind (wpAny_pure (wpAny_bind fin))
          | exact wpAny_bind fin
      | @bare x c ts b₀ suite np pos' hds2 l2 hc hsu r ih =>
        intro w
        obtain ⟨b, hb1, hyes, hno⟩ := w
        refine wpAny_handleBy_cons (codeAny_handlers_test ?_) (by intro q; cases q)
        have LT : PySem.W.Looks (model X.prog X.w) h3 (typeOf (.ref a)) cls := fun A Q E s k q => wpAny_typeOf_ref (k _ _ he3) (by rw [hz3.1]; exact q)
        have LM := PySem.W.exm_one (M := model X.prog X.w) (J3.kIn) LT hb1
        have test : ∀ {Q : Value → Shared → Prop} {E : Value → Shared → Prop}, Q c { s' with heap := h3 } → wpAny (model X.prog X.w) (X.A.mark (some (.ref a))) (eval (.Name x np) X.env) Q E { s' with heap := h3 } := fun {Q E} q => by
          obtain ⟨hg, hdbg, hm | ⟨hm, hv, hnn⟩⟩ := hc
          · exact ld_glob (X := X.suite a ((a, oe3) :: (X.pn ++ pins))) S3 hg hm q hdbg
          · exact ld_blt (X := X.suite a ((a, oe3) :: (X.pn ++ pins))) S3 hg hm hv q hnn hdbg
        refine test (LM.here ?_)
        cases b with
        | true =>
          refine codeAny_handlers_suite ?_
          refine HandSPX.lands_againZ fl3 fun h4 fl4 up4 => ?_
          have J4 : Inv X pins σ' H' { s' with heap := h4 } := J.landed nb fl4.1 ((up.trans up3).trans up4) os ag
          obtain ⟨oe4, vs4, he4, hz4, hd4⟩ := fl4.there
          have S4 := J4.suite he4 hd4 na nL nF
          refine wpAny_mono ((hsu a oe4 cls d (X.pn ++ pins) hz4 ⟨_, hd4⟩).run [] _ _ H' _ S4 (hyes rfl a na)) (fun f s6 hsp => ?_) (fun _ _ z => False.elim z)
          cases f with
          | next =>
            obtain ⟨σ6, H6, S6, q6⟩ := hsp
            exact ⟨_, _, S6.unsuite ok, q6⟩
          | brk =>
            obtain ⟨σ6, H6, S6, q6⟩ := hsp
            exact ⟨_, _, S6.unsuite ok, q6⟩
          | cont =>
            obtain ⟨σ6, H6, S6, q6⟩ := hsp
            exact ⟨_, _, S6.unsuite ok, q6⟩
          | ret u =>
            obtain ⟨v6, σ6, H6, S6, r6, q6⟩ := hsp
            exact ⟨_, _, _, S6.unsuite ok, r6, q6⟩
        | false =>
          show wpAny _ X.A (handleBy (.ref a) X.env hds2) _ _ _
          exact ih (hno rfl)
      | @named x n i c ts b₀ suite np pos' hds2 l2 hN hi hln hc hsu r ih =>
        intro w
        have hloc : Loc X.env.scope n := .inl hln
        obtain ⟨b, hb1, hyes, hno⟩ := w
        refine wpAny_handleBy_cons (codeAny_handlers_test ?_) (by intro q; cases q)
        have LT : PySem.W.Looks (model X.prog X.w) h3 (typeOf (.ref a)) cls := fun A Q E s k q => wpAny_typeOf_ref (k _ _ he3) (by rw [hz3.1]; exact q)
        have LM := PySem.W.exm_one (M := model X.prog X.w) (J3.kIn) LT hb1
        have test : ∀ {Q : Value → Shared → Prop} {E : Value → Shared → Prop}, Q c { s' with heap := h3 } → wpAny (model X.prog X.w) (X.A.mark (some (.ref a))) (eval (.Name x np) X.env) Q E { s' with heap := h3 } := fun {Q E} q => by
          obtain ⟨hg, hdbg, hm | ⟨hm, hv, hnn⟩⟩ := hc
          · exact ld_glob (X := X.suite a ((a, oe3) :: (X.pn ++ pins))) S3 hg hm q hdbg
          · exact ld_blt (X := X.suite a ((a, oe3) :: (X.pn ++ pins))) S3 hg hm hv q hnn hdbg
        refine test (LM.here ?_)
        cases b with
        | true =>
          refine codeAny_handlers_suite_as ?_
          refine HandSPX.lands_againZ fl3 fun h4 fl4 up4 => ?_
          have J4 : Inv X pins σ' H' { s' with heap := h4 } := J.landed nb fl4.1 ((up.trans up3).trans up4) os ag
          obtain ⟨oe4, vs4, he4, hz4, hd4⟩ := fl4.there
          have S4 := J4.suite he4 hd4 na nL nF
          refine store_ok (X := X.suite a ((a, oe4) :: (X.pn ++ pins))) (v := .ref a) S4 hN hi hloc rfl (fun s5 S5 => ?_) (.inr hln)
          refine wpAny_mono ((hsu a oe4 cls d (X.pn ++ pins) hz4 ⟨_, hd4⟩).run [] s5 _ H' _ S5 (hyes rfl a na)) (fun f s6 hsp => ?_) (fun _ _ z => False.elim z)
          have end_ : ∀ {σ6 : L2.St} {H6 : Hp} {Q : Shared → Prop}, Inv (X.suite a ((a, oe4) :: (X.pn ++ pins))) [] σ6 H6 s6 → (∀ s7, Inv X pins (σ6.set i none) H6 s7 → Q s7) →
              wpAny (model X.prog X.w) X.A (do bindName X.env n .none; unbindBehindTheSuite X.env n pos') (fun _ s7 => Q s7) X.xe s6 := fun {σ6 H6 Q} S6 hq => gone_ok (S6.unsuite ok) hN hi hln hq
          cases f with
          | next =>
            obtain ⟨σ6, H6, S6, q6⟩ := hsp
            exact end_ S6 fun s7 J7 => ⟨_, _, J7, q6⟩
          | brk =>
            obtain ⟨σ6, H6, S6, q6⟩ := hsp
            exact end_ S6 fun s7 J7 => ⟨_, _, J7, q6⟩
          | cont =>
            obtain ⟨σ6, H6, S6, q6⟩ := hsp
            exact end_ S6 fun s7 J7 => ⟨_, _, J7, q6⟩
          | ret u =>
            obtain ⟨v6, σ6, H6, S6, r6, q6⟩ := hsp
            exact end_ S6 fun s7 J7 => ⟨_, _, _, J7, r6, q6⟩
        | false =>
          show wpAny _ X.A (handleBy (.ref a) X.env hds2) _ _ _
          exact ih (hno rfl)
    exact go hh w
  · cases f with
    | next =>
      obtain ⟨σ', H', J', q⟩ := hsp
      exact wpAny_execs_nil ⟨σ', H', J'.ofTry ok, q⟩
    | brk =>
      obtain ⟨σ', H', J', q⟩ := hsp
      exact ⟨σ', H', J'.ofTry ok, q⟩
    | cont =>
      obtain ⟨σ', H', J', q⟩ := hsp
      exact ⟨σ', H', J'.ofTry ok, q⟩
    | ret u =>
      obtain ⟨v, σ', H', J', r, q⟩ := hsp
      exact ⟨v, σ', H', J'.ofTry ok, r, q⟩
end

/-! ### t.index(x), t a tuple of ints -/
section
variable {X : Cx}
def rTupIx (K : PySem.W.Frag) : V → List V → Hp → VK → Prop := fun x xs H Q => ∃ p, ∃ ys : List Int, ∃ z j, x = .ref p ∧ xs = [.int z] ∧ SqT K H p (ys.map V.int) ∧ ys[j]? = some z ∧ (∀ m, m < j → ys[m]? ≠ some z) ∧ Q (.int (j : Nat)) H
theorem flat_ints (ys : List Int) : (ys.map V.int).all flatV = true := by
  rw [List.all_map]
  exact List.all_eq_true.mpr fun _ _ => rfl
theorem mt_tupIx : MtR X "tuple.index" (rTupIx X.K) := by
  intro pins s σ H x xs v us Q I rx rs h
  obtain ⟨p, ys, z, j, rfl, rfl, hq, hy, hno, q⟩ := h
  cases rx
  obtain ⟨u, rfl, t, rfl⟩ := vals1 rs
  obtain ⟨its, r, pl, hz⟩ := I.tuple hq
  obtain ⟨⟨cls, dd, dt, sl⟩, ho, hc, n, hd⟩ := pl
  simp only at hc hd
  subst hc
  subst hd
  have hl : its.toArray.size = ys.length := by rw [List.size_toArray, ← r.length, List.length_map]
  have hj : j < its.toArray.size := by rw [hl]; exact (List.getElem?_eq_some_iff.mp hy).1
  have at' : ∀ (m : Nat) (hm : m < its.toArray.size), ∃ y t', ys[m]? = some y ∧ its.toArray[m] = Value.int y t' := fun m hm => by
    have hm' : m < ys.length := by rw [← hl]; exact hm
    obtain ⟨w, hw, t', hw'⟩ := r.get (i := m) (x := .int ys[m]) (by simp [hm'])
    refine ⟨ys[m], t', List.getElem?_eq_getElem hm', ?_⟩
    have e := (List.getElem?_eq_some_iff.mp hw).2
    rw [← hw', ← e]
    simp
  refine call_meets PySem.F.slot_tuple_index ⟨_, ho, rfl⟩ PySem.F.entry_tuple_index (PySem.F.args_tuple_index_2 _ _) (TI.tuple_indexAt p its.toArray n dd sl (.int z t) (eqU (.int z)) j hj ?_ ?_)
    ⟨ho, fun w hw => mem_eqAt (x := .int z) ⟨t, rfl⟩ rfl r (flat_ints ys) w (by simpa using hw), ⟨.int (j : Nat), H, I.tok _, ⟨_, rfl⟩, q⟩⟩
  · obtain ⟨y, t', h1, h2⟩ := at' j hj
    rw [hy] at h1
    cases h1
    rw [h2]
    show (z == z) = true
    exact beq_self_eq_true z
  · intro m hm hmj
    obtain ⟨y, t', h1, h2⟩ := at' m hm
    rw [h2]
    show (y == z) = false
    exact beq_eq_false_iff_ne.mpr fun e => hno m hmj (e ▸ h1)
end
end Flow

/-! steps of readings; a word of one's own, "x", that takes them -/
namespace Flow
open PySem PySem.Spec PyProof.Rows L2
/-! ### built-ins by names of our own -/
def rLen (K : PySem.W.Frag) : List V → Hp → VK → Prop := fun xs H Q => ∃ p ys, xs = [.ref p] ∧ (SqL K H p ys ∨ SqT K H p ys) ∧ Q (.int ys.length) H
def rListOf (K : PySem.W.Frag) : List V → Hp → VK → Prop := fun xs H Q => ∃ p ys, xs = [.ref p] ∧ (SqL K H p ys ∨ SqT K H p ys) ∧ ∀ l, H l = none → Q (.ref l) (upd H l (.lst ys))
def rTupleOf (K : PySem.W.Frag) : List V → Hp → VK → Prop := fun xs H Q => ∃ p ys, xs = [.ref p] ∧ ((SqL K H p ys ∧ ∀ l, H l = none → Q (.ref l) (upd H l (.tup ys))) ∨ (SqT K H p ys ∧ Q (.ref p) H))
def rMax2 : List V → Hp → VK → Prop := fun xs H Q => ∃ i j, xs = [.int i, .int j] ∧ Q (.int (if j > i then j else i)) H
def rMin2 : List V → Hp → VK → Prop := fun xs H Q => ∃ i j, xs = [.int i, .int j] ∧ Q (.int (if j < i then j else i)) H
def rInt1 : List V → Hp → VK → Prop := fun xs H Q => (∃ i, xs = [.int i] ∧ Q (.int i) H) ∨ ∃ k, xs = [.bl k] ∧ Q (.int (if k then 1 else 0)) H
def rInsert : V → List V → Hp → VK → Prop := fun x vs H Q => ∃ (l : Addr) (xs : List V) (i : Int) (y : V), x = .ref l ∧ vs = [.int i, y] ∧ H l = some (.lst xs) ∧ xs.length < sizeLine ∧ 0 ≤ i ∧ i < 2 ^ 63 ∧
    Q .non (upd H l (.lst (xs.take i.toNat ++ [y] ++ xs.drop i.toNat)))
def rIsN : R2 := fun x y H Q => y = .non ∧ Q (.bl (decide (x = .non))) H
def rNotN : R2 := fun x y H Q => y = .non ∧ Q (.bl (!decide (x = .non))) H
section
variable {X : Cx}
theorem call_lenS : CallR X (.builtin "len") (rLen X.K) := call_len_seq
theorem call_listS : CallR X (.type "list") (rListOf X.K) := call_list_of
theorem call_tupleS : CallR X (.type "tuple") (rTupleOf X.K) := call_tuple_of
theorem call_max2S (hc : X.calm = true) : CallR X (.builtin "max") rMax2 := call_max2 hc
theorem call_min2S (hc : X.calm = true) : CallR X (.builtin "min") rMin2 := call_min2 hc
theorem call_intS : CallR X (.type "int") rInt1 := call_int1
theorem mt_insertS : MtR X "list.insert" rInsert := mt_insert
theorem op_isNS : OpR X (compareOp .Is) rIsN := op_isN
theorem op_notNS : OpR X (compareOp .IsNot) rNotN := op_notN
theorem pe_ci {x : Str} {i : Int} {pos : Pos} (hm : ∃ t, X.mg x = some (.int i t)) (hg : Gl X x := by rfl) (hd : (x == ("__debug__" : Str)) = false := by decide) : PE X (.Name x pos) (tC (.int i)) := by
  obtain ⟨t, hm⟩ := hm
  exact pe_glob hg hm ⟨t, rfl⟩ hd
theorem pe_gr {x : Str} {a : Addr} {pos : Pos} (hm : X.mg x = some (.ref a)) (hg : Gl X x := by rfl) (hd : (x == ("__debug__" : Str)) = false := by decide) : PE X (.Name x pos) (tC (.ref a)) := pe_glob hg hm rfl hd
/-- a value's truth -/
def rTru (K : PySem.W.Frag) : V → Hp → (Bool → Hp → Prop) → Prop := fun x H Q => ∃ k, TruV K x H k ∧ Q k H
def tTru (K : PySem.W.Frag) (ta : TE) : TT := fun σ H Q => ta σ H fun x H1 => rTru K x H1 Q
theorem pt_truthS {a : Expr} {ta : TE} (ha : PE X a ta) (he : ∀ whole, isTrue a X.env whole = (do let v ← whole; standAt a.pos; holding [v] (truthy v))) : PT X a (tTru X.K ta) := pt_truth ha he
end

/-! ### pieces of readings by names of our own -/
section
variable {K : PySem.W.Frag} {σ : L2.St} {H : Hp} {ta tb te tv : TE} {t u c : TT} {i j : Nat} {v x y : V} {r : R2} {Q : VK} {B : Bool → Hp → Prop} {D : Ends} {t1 t2 : TS} {f : Str} {a C dx p l : Addr} {fs fs' : List (Str × V)} {vs xs ys : List V} {m n : Int}
def rFld (K : PySem.W.Frag) (f : Str) : V → Hp → VK → Prop := fun x H1 Q => ∃ a C dx fs v, x = .ref a ∧ H1 a = some (.ins C dx fs) ∧ Cls K C ∧ NoAttr K C f ∧ fs.lookup f = some v ∧ Q v H1
def rSFld (K : PySem.W.Frag) (f : Str) (y : V) : V → Hp → (Hp → Prop) → Prop := fun x H2 Q => ∃ a C dx fs, x = .ref a ∧ H2 a = some (.ins C dx fs) ∧ Cls K C ∧ NoAttr K C f ∧ fs.length < 1000 ∧ Q (upd H2 a (.ins C dx (putF f y fs)))
def rBl : V → Hp → (Bool → Hp → Prop) → Prop := fun x H Q => ∃ k, x = .bl k ∧ Q k H
def rBV : V → Hp → (Bool → Hp → Prop) → Prop := fun x H Q => ∃ c, x = .bl c ∧ Q c H
def rLst : List V → Hp → VK → Prop := fun xs H Q => xs.length ≤ sizeLine ∧ ∀ p, H p = none → Q (.ref p) (upd H p (.lst xs))
def rTup : List V → Hp → VK → Prop := fun xs H Q => xs.length ≤ sizeLine ∧ ∀ p, H p = none → Q (.ref p) (upd H p (.tup xs))
def rPart : V → Hp → (Option Int → Hp → Prop) → Prop := fun x H Q => ∃ i, x = .int i ∧ Q (some i) H
theorem x_var (h : σ[i]? = some (some v)) (q : Q v H) : tVar i σ H Q := ⟨v, h, q⟩
theorem x_c (q : Q v H) : tC v σ H Q := q
theorem x_op (q : ta σ H fun x H1 => tb σ H1 fun y H2 => r x y H2 Q) : tOp r ta tb σ H Q := q
theorem x_un {r : V → Hp → VK → Prop} (q : ta σ H fun x H1 => r x H1 Q) : tUn r ta σ H Q := q
theorem x_rI0 {g : Int → Int → V} (q : Q (g m n) H) : rI0 g (.int m) (.int n) H Q := ⟨m, n, rfl, rfl, q⟩
theorem x_rI {C : Int → Int → Prop} {g : Int → Int → V} (hc : C m n) (q : Q (g m n) H) : rI C g (.int m) (.int n) H Q := ⟨m, n, rfl, rfl, hc, q⟩
theorem x_rU {g : Int → V} (q : Q (g m) H) : rU g (.int m) H Q := ⟨m, rfl, q⟩
theorem dec_int (m n : Int) : decide (V.int m = V.int n) = decide (m = n) := by
  by_cases h : m = n
  · rw [h, decide_eq_true rfl, decide_eq_true rfl]
  · rw [decide_eq_false h, decide_eq_false (fun e => h (V.int.inj e))]
theorem dec_str (m n : Str) : decide (V.str m = V.str n) = decide (m = n) := by
  by_cases h : m = n
  · rw [h, decide_eq_true rfl, decide_eq_true rfl]
  · rw [decide_eq_false h, decide_eq_false (fun e => h (V.str.inj e))]
theorem x_eqI (q : Q (.bl (decide (m = n))) H) : rEq (.int m) (.int n) H Q := ⟨rfl, by rw [dec_int]; exact q⟩
theorem x_neI (q : Q (.bl (!decide (m = n))) H) : rNe (.int m) (.int n) H Q := ⟨rfl, by rw [dec_int]; exact q⟩
theorem x_eqS {m n : Str} (q : Q (.bl (decide (m = n))) H) : rEq (.str m) (.str n) H Q := ⟨rfl, by rw [dec_str]; exact q⟩
theorem x_neS {m n : Str} (q : Q (.bl (!decide (m = n))) H) : rNe (.str m) (.str n) H Q := ⟨rfl, by rw [dec_str]; exact q⟩
theorem x_isN (q : Q (.bl (decide (x = .non))) H) : rIsN x .non H Q := ⟨rfl, q⟩
theorem x_notN (q : Q (.bl (!decide (x = .non))) H) : rNotN x .non H Q := ⟨rfl, q⟩
theorem x_fld (q : ta σ H fun x H1 => rFld K f x H1 Q) : tFld K ta f σ H Q := q
theorem x_rFld (h : H a = some (.ins C dx fs)) (c : Cls K C) (n : NoAttr K C f) (l : fs.lookup f = some v) (q : Q v H) : rFld K f (.ref a) H Q := ⟨a, C, dx, fs, v, rfl, h, c, n, l, q⟩
theorem x_sFld (q : tv σ H fun y H1 => ta σ H1 fun x H2 => rSFld K f y x H2 (D.nx σ)) : sFld K ta tv f D σ H := q
theorem x_rSFld {Q : Hp → Prop} (h : H a = some (.ins C dx fs)) (c : Cls K C) (n : NoAttr K C f) (hl : fs.length < 1000) (e : putF f y fs = fs') (q : Q (upd H a (.ins C dx fs'))) : rSFld K f y (.ref a) H Q := by
  subst e
  exact ⟨a, C, dx, fs, rfl, h, c, n, hl, q⟩
theorem x_test (q : te σ H fun x H1 => rBl x H1 B) : tTest te σ H B := q
theorem x_B (q : te σ H fun x H1 => rBV x H1 B) : tB te σ H B := q
theorem x_rBl {b : Bool} (q : B b H) : rBl (.bl b) H B := ⟨b, rfl, q⟩
theorem x_rBV {b : Bool} (q : B b H) : rBV (.bl b) H B := ⟨b, rfl, q⟩
theorem x_tru (q : ta σ H fun x H1 => rTru K x H1 B) : tTru K ta σ H B := q
theorem x_and (q : t σ H fun c H1 => if c = true then u σ H1 B else B false H1) : tAnd t u σ H B := q
theorem x_or (q : t σ H fun c H1 => if c = true then B true H1 else u σ H1 B) : tOr t u σ H B := q
theorem x_not (q : t σ H fun c H1 => B (!c) H1) : tNot t σ H B := q
def rAndV (tb : TE) (σ : L2.St) : V → Hp → VK → Prop := fun x H1 Q => ∃ c, x = .bl c ∧ if c = true then tb σ H1 Q else Q (.bl false) H1
def rOrV (tb : TE) (σ : L2.St) : V → Hp → VK → Prop := fun x H1 Q => ∃ c, x = .bl c ∧ if c = true then Q (.bl true) H1 else tb σ H1 Q
def rNotV : V → Hp → VK → Prop := fun x H1 Q => ∃ c, x = .bl c ∧ Q (.bl (!c)) H1
theorem x_andV (q : ta σ H fun x H1 => rAndV tb σ x H1 Q) : tAndV ta tb σ H Q := q
theorem x_orV (q : ta σ H fun x H1 => rOrV tb σ x H1 Q) : tOrV ta tb σ H Q := q
theorem x_notV (q : ta σ H fun x H1 => rNotV x H1 Q) : tNotV ta σ H Q := q
theorem x_rAndV {b : Bool} (q : if b = true then tb σ H Q else Q (.bl false) H) : rAndV tb σ (.bl b) H Q := ⟨b, rfl, q⟩
theorem x_rOrV {b : Bool} (q : if b = true then Q (.bl true) H else tb σ H Q) : rOrV tb σ (.bl b) H Q := ⟨b, rfl, q⟩
theorem x_rNotV {b : Bool} (q : Q (.bl (!b)) H) : rNotV (.bl b) H Q := ⟨b, rfl, q⟩
theorem x_if (q : t σ H fun c H1 => if c = true then ta σ H1 Q else tb σ H1 Q) : tIf t ta tb σ H Q := q
def rChain (r' : R2) (tc : TE) (σ : L2.St) (y : V) : V → Hp → VK → Prop := fun z H3 Q => ∃ k, z = .bl k ∧ if k = true then tc σ H3 fun w H4 => r' y w H4 Q else Q (.bl false) H3
theorem x_chain {r' : R2} {tc : TE} (q : ta σ H fun x H1 => tb σ H1 fun y H2 => r x y H2 fun z H3 => rChain r' tc σ y z H3 Q) : tChain r r' ta tb tc σ H Q := q
theorem x_rChain {r' : R2} {tc : TE} {b : Bool} (q : if b = true then tc σ H fun w H4 => r' y w H4 Q else Q (.bl false) H) : rChain r' tc σ y (.bl b) H Q := ⟨b, rfl, q⟩
theorem x_nil {Q : List V → Hp → Prop} (q : Q [] H) : tNil σ H Q := q
theorem x_cons {tr : TA} {Q : List V → Hp → Prop} (q : ta σ H fun x H1 => tr σ H1 fun xs H2 => Q (x :: xs) H2) : tCons ta tr σ H Q := q
theorem x_lst {t : TA} (q : t σ H fun xs H1 => rLst xs H1 Q) : tLst t σ H Q := q
theorem x_tup {t : TA} (q : t σ H fun xs H1 => rTup xs H1 Q) : tTup t σ H Q := q
theorem x_rLst (hl : vs.length ≤ sizeLine) (q : ∀ p, H p = none → Q (.ref p) (upd H p (.lst vs))) : rLst vs H Q := ⟨hl, q⟩
theorem x_rTup (hl : vs.length ≤ sizeLine) (q : ∀ p, H p = none → Q (.ref p) (upd H p (.tup vs))) : rTup vs H Q := ⟨hl, q⟩
theorem x_cb {r : List V → Hp → VK → Prop} {t : TA} (q : t σ H fun vs H1 => r vs H1 Q) : tCB r t σ H Q := q
theorem x_len (h : SqL K H p ys ∨ SqT K H p ys) (q : Q (.int ys.length) H) : rLen K [.ref p] H Q := ⟨p, ys, rfl, h, q⟩
theorem x_listOf (h : SqL K H p ys ∨ SqT K H p ys) (q : ∀ l, H l = none → Q (.ref l) (upd H l (.lst ys))) : rListOf K [.ref p] H Q := ⟨p, ys, rfl, h, q⟩
theorem x_max2 (q : Q (.int (if n > m then n else m)) H) : rMax2 [.int m, .int n] H Q := ⟨m, n, rfl, q⟩
theorem x_min2 (q : Q (.int (if n < m then n else m)) H) : rMin2 [.int m, .int n] H Q := ⟨m, n, rfl, q⟩
def rTy (K : PySem.W.Frag) (T : String) (r : V → List V → Hp → VK → Prop) (t : TA) (σ : L2.St) : V → Hp → VK → Prop := fun x H1 Q => tyV K T x H1 ∧ t σ H1 fun xs H2 => r x xs H2 Q
def rTy0 (K : PySem.W.Frag) (T : String) (r : V → List V → Hp → VK → Prop) : V → Hp → VK → Prop := fun x H1 Q => tyV K T x H1 ∧ r x [] H1 Q
theorem x_bm {T : String} {r : V → List V → Hp → VK → Prop} {t : TA} (q : ta σ H fun x H1 => rTy K T r t σ x H1 Q) : tBM K T r ta t σ H Q := q
theorem x_bm0 {T : String} {r : V → List V → Hp → VK → Prop} (q : ta σ H fun x H1 => rTy0 K T r x H1 Q) : tBM0 K T r ta σ H Q := q
theorem x_tyL {r : V → List V → Hp → VK → Prop} {t : TA} (h : H p = some (.lst xs)) (q : t σ H fun ws H2 => r (.ref p) ws H2 Q) : rTy K "list" r t σ (.ref p) H Q := ⟨.inl ⟨rfl, xs, SqL.of h⟩, q⟩
theorem x_tyL' {r : V → List V → Hp → VK → Prop} {t : TA} (h : SqL K H p xs) (q : t σ H fun ws H2 => r (.ref p) ws H2 Q) : rTy K "list" r t σ (.ref p) H Q := ⟨.inl ⟨rfl, xs, h⟩, q⟩
theorem x_tyL0 {r : V → List V → Hp → VK → Prop} (h : H p = some (.lst xs)) (q : r (.ref p) [] H Q) : rTy0 K "list" r (.ref p) H Q := ⟨.inl ⟨rfl, xs, SqL.of h⟩, q⟩
theorem x_append (h : H l = some (.lst xs)) (hl : xs.length < sizeLine) (q : Q .non (upd H l (.lst (xs ++ [y])))) : rAppend (.ref l) [y] H Q := ⟨l, xs, y, rfl, rfl, h, hl, q⟩
theorem x_extend (h : H l = some (.lst xs)) (h2 : H p = some (.lst ys)) (hl : xs.length + ys.length ≤ sizeLine) (q : Q .non (upd H l (.lst (xs ++ ys)))) : rExtend (.ref l) [.ref p] H Q := ⟨l, p, xs, ys, rfl, rfl, h, h2, hl, q⟩
theorem x_cat (h : H l = some (.lst xs)) (h2 : H p = some (.lst ys)) (hl : xs.length + ys.length ≤ sizeLine) (q : ∀ r, H r = none → Q (.ref r) (upd H r (.lst (xs ++ ys)))) : rCat (.ref l) (.ref p) H Q := ⟨l, p, xs, ys, rfl, rfl, h, h2, hl, q⟩
theorem x_ixL (h : SqL K H p xs) (e : atI xs m = some v) (q : Q v H) : rIxL K (.ref p) (.int m) H Q := ⟨p, xs, m, v, rfl, rfl, h, e, q⟩
theorem x_ixT (h : SqT K H p xs) (e : atI xs m = some v) (q : Q v H) : rIxT K (.ref p) (.int m) H Q := ⟨p, xs, m, v, rfl, rfl, h, e, q⟩
theorem x_sl {r : V → Option Int → Option Int → Hp → VK → Prop} {tl th : TO} (q : te σ H fun x H1 => tl σ H1 fun l H2 => th σ H2 fun u H3 => r x l u H3 Q) : tSl r te tl th σ H Q := q
theorem x_noPart {Q : Option Int → Hp → Prop} (q : Q none H) : tNoPart σ H Q := q
theorem x_part {Q : Option Int → Hp → Prop} (q : te σ H fun x H1 => rPart x H1 Q) : tPart te σ H Q := q
theorem x_rPart {Q : Option Int → Hp → Prop} (q : Q (some m) H) : rPart (.int m) H Q := ⟨m, rfl, q⟩
theorem x_slL {lo hi : Option Int} (h : SqL K H p xs) (q : ∀ l, H l = none → Q (.ref l) (upd H l (.lst (cutV xs lo hi)))) : rSlL K (.ref p) lo hi H Q := ⟨p, xs, rfl, h, q⟩
theorem x_in {neg : Bool} (h : SqL K H p xs ∨ SqT K H p xs) (fx : flatV x = true) (fa : xs.all flatV = true) (q : Q (.bl (if neg then !inV x xs else inV x xs)) H) : rIn K neg x (.ref p) H Q := ⟨p, xs, rfl, h, fx, fa, q⟩
/-! statements -/
theorem x_seq (q : t1 { D with nx := t2 D } σ H) : tSeq t1 t2 D σ H := q
theorem x_next (q : D.nx σ H) : tNext D σ H := q
theorem x_brk (q : D.bk σ H) : tBreak D σ H := q
theorem x_ct (q : D.ct σ H) : tCont D σ H := q
theorem x_drop (q : te σ H fun _ H1 => D.nx σ H1) : tDrop te D σ H := q
theorem x_ret (q : te σ H D.rt) : tRet te D σ H := q
theorem x_retN (q : D.rt .non H) : tRetN D σ H := q
theorem x_ifS (q : c σ H fun b H1 => if b = true then t1 D σ H1 else t2 D σ H1) : tIfS c t1 t2 D σ H := q
theorem x_asg {g : TG} (q : te σ H fun x H1 => g x σ H1 D.nx) : tAsg te g D σ H := q
theorem x_gName {Q : L2.St → Hp → Prop} (q : Q (σ.set i (some v)) H) : gName i v σ H Q := q
/-! calls -/
theorem x_fn {sp : Sp} {E : L2.St → XK} {t : TA} (q : t σ H fun vs H1 => sp vs H1 Q (E σ)) : tFn sp E t σ H Q := q
def rMm (ok : Addr → Prop) (m : Str) (sp : Addr → Sp) (E : XK) (t : TA) (σ : L2.St) : V → Hp → VK → Prop := fun x H1 Q => ∃ a C dx fs, x = .ref a ∧ H1 a = some (.ins C dx fs) ∧ ok C ∧ fs.lookup m = none ∧ t σ H1 fun vs H2 => sp C (x :: vs) H2 Q E
theorem x_mm {ok : Addr → Prop} {m : Str} {sp : Addr → Sp} {E : L2.St → XK} {t : TA} (q : ta σ H fun x H1 => rMm ok m sp (E σ) t σ x H1 Q) : tMm ok m sp E ta t σ H Q := q
theorem x_rMm {ok : Addr → Prop} {m : Str} {sp : Addr → Sp} {E : XK} {t : TA} (h : H a = some (.ins C dx fs)) (hc : ok C) (hl : fs.lookup m = none) (q : t σ H fun vs H2 => sp C (.ref a :: vs) H2 Q E) : rMm ok m sp E t σ (.ref a) H Q :=
  ⟨a, C, dx, fs, rfl, h, hc, hl, q⟩
def rMu (P : Program) (w : World) (K : PySem.W.Frag) (mg : Str → Option Value) (base : Heap) (k : Nat) (m : Str) (ps : List Str) (E : XK) (t : TA) (σ : L2.St) : V → Hp → VK → Prop := fun x H1 Q => ∃ (a C dx : Addr) (fs : List (Str × V)) (sp : Sp), x = .ref a ∧ H1 a = some (.ins C dx fs) ∧
  MethOk P w K mg base k C m ps sp ∧ fs.lookup m = none ∧ t σ H1 fun vs H2 => sp (x :: vs) H2 Q E
theorem x_mu {P : Program} {w : World} {mg : Str → Option Value} {base : Heap} {k : Nat} {m : Str} {ps : List Str} {E : L2.St → XK} {t : TA} (q : ta σ H fun x H1 => rMu P w K mg base k m ps (E σ) t σ x H1 Q) : tMu P w K mg base k m ps E ta t σ H Q := q
theorem x_rMu {P : Program} {w : World} {mg : Str → Option Value} {base : Heap} {k : Nat} {m : Str} {ps : List Str} {E : XK} {t : TA} {sp : Sp} (h : H a = some (.ins C dx fs)) (D : MethOk P w K mg base k C m ps sp) (hl : fs.lookup m = none)
    (q : t σ H fun vs H2 => sp (.ref a :: vs) H2 Q E) : rMu P w K mg base k m ps E t σ (.ref a) H Q := ⟨a, C, dx, fs, sp, rfl, h, D, hl, q⟩
theorem x_mk {sp : Sp} {E : L2.St → XK} {t : TA} (q : t σ H fun vs H1 => ∀ x dx, H1 x = none → H1 dx = none → dx ≠ x → sp (.ref x :: vs) (upd (upd H1 dx (.own x)) x (.ins C dx [])) (fun v H2 => v = .non ∧ Q (.ref x) H2) (E σ)) : tMk C sp E t σ H Q := q
end
/-! ### tests -/
theorem ite_d {p A B : Prop} [Decidable p] (h1 : p → A) (h2 : ¬ p → B) : if decide p = true then A else B := by
  by_cases h : p
  · rw [if_pos (decide_eq_true h)]
    exact h1 h
  · rw [if_neg (by rw [decide_eq_false h]; exact Bool.false_ne_true)]
    exact h2 h
theorem ite_nd {p A B : Prop} [Decidable p] (h1 : ¬ p → A) (h2 : p → B) : if (!decide p) = true then A else B := by
  by_cases h : p
  · rw [decide_eq_true h]
    exact iteF (h2 h)
  · rw [decide_eq_false h]
    exact iteT (h1 h)
theorem ite_b {b : Bool} {A B : Prop} (h1 : b = true → A) (h2 : b = false → B) : if b = true then A else B := by
  cases b with
  | true => exact iteT (h1 rfl)
  | false => exact iteF (h2 rfl)
theorem ite_nb {b : Bool} {A B : Prop} (h1 : b = false → A) (h2 : b = true → B) : if (!b) = true then A else B := by
  cases b with
  | true => exact iteF (h2 rfl)
  | false => exact iteT (h1 rfl)
/-! ### heaps -/
theorem upd_none {H : Hp} {a l : Addr} {o : HO} (h : upd H a o l = none) : l ≠ a ∧ H l = none := by
  by_cases e : l = a
  · rw [e, upd_same] at h
    cases h
  · rw [upd_ne e] at h
    exact ⟨e, h⟩
theorem upd_get {H : Hp} {a b : Addr} {o : HO} {u : Option HO} (h : b ≠ a) (q : H b = u) : upd H a o b = u := (upd_ne h).trans q
theorem sz1 {n : Nat} (h : n ≤ 1000) : n ≤ sizeLine := Nat.le_trans h (by decide)
/-- what changed lies among the given places, or is new -/
structure Only' (S : List Addr) (H H' : Hp) : Prop where
  at_ : ∀ b o, H b = some o → b ∉ S → H' b = some o
  more : ∀ b o, H b = some o → ∃ o', H' b = some o'
instance {S : List Addr} {H H' : Hp} : CoeFun (Only' S H H') (fun _ => ∀ b o, H b = some o → b ∉ S → H' b = some o) := ⟨Only'.at_⟩
theorem Only'.refl {S : List Addr} {H : Hp} : Only' S H H := ⟨fun _ _ h _ => h, fun _ o h => ⟨o, h⟩⟩
theorem Only'.trans {S : List Addr} {H H1 H2 : Hp} (a : Only' S H H1) (b : Only' S H1 H2) : Only' S H H2 := ⟨fun c o h n => b c o (a c o h n) n, fun c o h => by
  obtain ⟨o1, h1⟩ := a.more c o h
  exact b.more c o1 h1⟩
theorem upd_more {H : Hp} {p b : Addr} {o u : HO} (h : H b = some u) : ∃ o', upd H p o b = some o' := by
  by_cases e : b = p
  · exact ⟨o, by rw [e, upd_same]⟩
  · exact ⟨u, upd_get e h⟩
theorem Only'.put {S : List Addr} {H H' : Hp} {p : Addr} {o : HO} (e : Only' S H H') (h : p ∈ S) : Only' S H (upd H' p o) := ⟨fun b u hb n => upd_get (fun z => n (z ▸ h)) (e b u hb n), fun b u hb => by
  obtain ⟨o1, h1⟩ := e.more b u hb
  exact upd_more h1⟩
theorem Only'.mono {S S' : List Addr} {H H' : Hp} (e : Only' S H H') (h : ∀ a, a ∈ S → a ∈ S') : Only' S' H H' := ⟨fun b o hb n => e b o hb fun z => n (h b z), e.more⟩
/-- .. a place that was free may change too -/
theorem Only'.put0 {S : List Addr} {H H' : Hp} {p : Addr} {o : HO} (e : Only' S H H') (h : H p = none) : Only' S H (upd H' p o) := ⟨fun b u hb n => upd_get (ne_of_none hb h) (e b u hb n), fun b u hb => by
  obtain ⟨o1, h1⟩ := e.more b u hb
  exact upd_more h1⟩
/-- what is free behind was free ahead -/
theorem Only'.free {S : List Addr} {H H' : Hp} {r : Addr} (e : Only' S H H') (h : H' r = none) : H r = none := by
  cases z : H r with
  | none => rfl
  | some o =>
    obtain ⟨o', q⟩ := e.more r o z
    rw [h] at q
    cases q
theorem Only'.new {S : List Addr} {H H' : Hp} {p : Addr} {o : HO} (e : Only' S H H') (h : H' p = none) : Only' S H (upd H' p o) := e.put0 (e.free h)
end Flow

/-! the mirror: what the program computes, as plain functions over lists of whole numbers -/
namespace Flow
abbrev Row := List Int
def signsT : List Int := [45, 48, 49, 50, 51, 52, 53, 54, 55, 56, 57, 65, 66, 67, 68, 69, 70, 71, 72, 73, 74, 75, 76, 77, 78, 79, 80, 81, 82, 83, 84, 85, 86, 87, 88, 89, 90, 95, 97, 98, 99, 100, 101, 102, 103, 104, 105, 106, 107, 108, 109, 110, 111, 112, 113, 114, 115, 116, 117, 118, 119, 120, 121, 122]
def powersT : List Int := [1, 2, 4, 8, 16, 32, 64, 128]
/-- the item at a place (0 where there is none) -/
def gI (xs : List Int) (i : Int) : Int := xs.getD i.toNat 0
/-- a byte -/
def By (b : Int) : Prop := 0 ≤ b ∧ b < 256
def Bys (xs : Row) : Prop := ∀ b, b ∈ xs → By b
def marksOf (b : Int) : Row := [b % 256, (b + 1) % 256, (b + 2) % 256, (b + 3) % 256]

/-! ### writers -/
inductive WSt where
  | add (key : Row) (at_ : Int)
  | front (row : Row)
  | esc (b : Int)
  | runs (many byte : Int)
  | chunks (size : Int) (held : Row)
  | checks (size many check : Int)
  | signs (many value : Int)
def nextCheck (check b : Int) : Int := (check * 257 + b + 1) % 65521
def checkBytes (check : Int) : Row := [check / 256, check % 256]
def signOf (i : Int) : Int := gI signsT i
def pow2 (m : Int) : Int := gI powersT m
def takeAdd (key : Row) (at_ b : Int) : Row × WSt := ([(b + gI key at_) % 256], .add key ((at_ + 1) % (key.length : Int)))
def moveFront (row : Row) (k : Nat) : Row := row.getD k 0 :: row.eraseIdx k
def takeFront (row : Row) (b : Int) : Row × WSt := ([(row.idxOf b : Int)], .front (moveFront row (row.idxOf b)))
def escOut (e b : Int) : Row := if b = e % 256 then [(e + 1) % 256, (e + 2) % 256] else if b = (e + 1) % 256 then [(e + 1) % 256, (e + 3) % 256] else [b]
def takeRuns (many byte b : Int) : Row × WSt :=
  if many > 0 ∧ b ≠ byte then ([many, byte], .runs 1 b)
  else if many + 1 = 255 then ([255, b], .runs 0 b) else ([], .runs (many + 1) b)
def takeChunks (size : Int) (held : Row) (b : Int) : Row × WSt :=
  if ((held ++ [b]).length : Int) = size then (((held ++ [b]).length : Int) :: (held ++ [b]), .chunks size []) else ([], .chunks size (held ++ [b]))
def takeChecks (size many check b : Int) : Row × WSt :=
  if many + 1 < size then ([b], .checks size (many + 1) (nextCheck check b)) else (b :: checkBytes (nextCheck check b), .checks size 0 (nextCheck check b))
def takeSigns (many value b : Int) : Row × WSt :=
  if many + 2 ≥ 6 then ([signOf ((value * 256 + b) / pow2 (many + 2)), signOf ((value * 256 + b) % pow2 (many + 2) / pow2 (many + 2 - 6))], .signs (many + 2 - 6) ((value * 256 + b) % pow2 (many + 2) % pow2 (many + 2 - 6)))
  else ([signOf ((value * 256 + b) / pow2 (many + 2))], .signs (many + 2) ((value * 256 + b) % pow2 (many + 2)))
def wtake : WSt → Int → Row × WSt
  | .add key at_, b => takeAdd key at_ b
  | .front row, b => takeFront row b
  | .esc e, b => (escOut e b, .esc e)
  | .runs many byte, b => takeRuns many byte b
  | .chunks size held, b => takeChunks size held b
  | .checks size many check, b => takeChecks size many check b
  | .signs many value, b => takeSigns many value b
def wend : WSt → Row
  | .add _ _ => []
  | .front _ => []
  | .esc _ => []
  | .runs many byte => if many = 0 then [] else [many, byte]
  | .chunks _ held => (held.length : Int) :: held
  | .checks _ _ check => checkBytes check
  | .signs many value => if many = 0 then [] else [signOf (value * pow2 (6 - many))]
/-- what a writer is behind its end -/
def wended : WSt → WSt
  | .runs _ byte => .runs 0 byte
  | .chunks size _ => .chunks size []
  | .checks size _ check => .checks size 0 check
  | s => s
def WOk : WSt → Prop
  | .add key at_ => 1 ≤ key.length ∧ key.length ≤ 8 ∧ Bys key ∧ 0 ≤ at_ ∧ at_ < (key.length : Int)
  | .front row => row.length = 256 ∧ ∀ b, By b → b ∈ row
  | .esc e => By e
  | .runs many byte => 0 ≤ many ∧ many < 255 ∧ By byte
  | .chunks size held => 1 ≤ size ∧ size ≤ 255 ∧ (held.length : Int) < size ∧ Bys held
  | .checks size many check => 1 ≤ size ∧ size ≤ 255 ∧ 0 ≤ many ∧ many < size ∧ 0 ≤ check ∧ check < 65521
  | .signs many value => (many = 0 ∨ many = 2 ∨ many = 4) ∧ 0 ≤ value ∧ value < pow2 many
/-- a row through one writer -/
def wfeed : WSt → Row → Row × WSt
  | s, [] => ([], s)
  | s, b :: r => ((wtake s b).1 ++ (wfeed (wtake s b).2 r).1, (wfeed (wtake s b).2 r).2)
/-- a row through writers, one behind the other -/
def wthru : List WSt → Row → Row × List WSt
  | [], r => (r, [])
  | s :: ss, r => ((wthru ss (wfeed s r).1).1, (wfeed s r).2 :: (wthru ss (wfeed s r).1).2)
/-- the ends, from the first on -/
def wendAll : Nat → List WSt → Row
  | 0, _ => []
  | _ + 1, [] => []
  | n + 1, s :: ss => (wthru ss (wend s)).1 ++ wendAll n (wthru ss (wend s)).2
/-- all rows between are of a size that a list may have -/
def WFits : List WSt → Row → Prop
  | [], r => r.length ≤ 16777216
  | s :: ss, r => r.length ≤ 16777216 ∧ WFits ss (wfeed s r).1
def WEndFits : Nat → List WSt → Prop
  | 0, _ => True
  | _ + 1, [] => True
  | n + 1, s :: ss => WFits ss (wend s) ∧ WEndFits n (wthru ss (wend s)).2

/-! ### readers -/
inductive RSt where
  | add (key : Row) (at_ : Int)
  | front (row : Row)
  | esc (b done : Int) (marked : Bool)
  | runs (done many lastN lastB : Int)
  | chunks (size done left : Int) (isLast : Bool)
  | checks (size done check : Int) (held : Row)
  | signs (done many value : Int)
def checkAll : Int → Row → Int
  | c, [] => c
  | c, b :: r => checkAll (nextCheck c b) r
/-- what comes of a byte: a fault at a place, or bytes -/
inductive RTake where
  | wrong (place : Int)
  | ok (row : Row) (s : RSt)
inductive REnd where
  | wrong (place : Int)
  | cut
  | ok (row : Row)
def blockRow (held : Row) : Row := held.take (held.length - 2)
def blockTail (held : Row) : Row := held.drop (held.length - 2)
def rtake : RSt → Int → RTake
  | .add key at_, b => .ok [(b - gI key at_) % 256] (.add key ((at_ + 1) % (key.length : Int)))
  | .front row, b => .ok [gI row b] (.front (moveFront row b.toNat))
  | .esc e done marked, b =>
    if marked = true then
      if b = (e + 2) % 256 then .ok [e % 256] (.esc e (done + 1) false)
      else if b = (e + 3) % 256 then .ok [(e + 1) % 256] (.esc e (done + 1) false)
      else .wrong done
    else if b = e % 256 then .wrong done
    else if b = (e + 1) % 256 then .ok [] (.esc e (done + 1) true)
    else .ok [b] (.esc e (done + 1) false)
  | .runs done many lastN lastB, b =>
    if many = 0 then
      if b = 0 then .wrong done else .ok [] (.runs (done + 1) b lastN lastB)
    else if b = lastB ∧ 0 < lastN ∧ lastN < 255 then .wrong done
    else .ok (List.replicate many.toNat b) (.runs (done + 1) 0 many b)
  | .chunks size done left isLast, b =>
    if left > 0 then .ok [b] (.chunks size (done + 1) (left - 1) isLast)
    else if isLast = true ∨ b > size then .wrong done
    else .ok [] (.chunks size (done + 1) b (decide (b < size)))
  | .checks size done check held, b =>
    if ((held ++ [b]).length : Int) = size + 2 then
      if blockTail (held ++ [b]) = checkBytes (checkAll check (blockRow (held ++ [b]))) then .ok (blockRow (held ++ [b])) (.checks size (done + 1) (checkAll check (blockRow (held ++ [b]))) [])
      else .wrong done
    else .ok [] (.checks size (done + 1) check (held ++ [b]))
  | .signs done many value, b =>
    if b ∈ signsT then
      if many + 6 < 8 then .ok [] (.signs (done + 1) (many + 6) (value * 64 + (signsT.idxOf b : Int)))
      else .ok [(value * 64 + (signsT.idxOf b : Int)) / pow2 (many - 2)] (.signs (done + 1) (many - 2) ((value * 64 + (signsT.idxOf b : Int)) % pow2 (many - 2)))
    else .wrong done
def rend : RSt → REnd
  | .add _ _ => .ok []
  | .front _ => .ok []
  | .esc _ _ marked => if marked = true then .cut else .ok []
  | .runs _ many _ _ => if many > 0 then .cut else .ok []
  | .chunks _ _ left isLast => if left > 0 ∨ ¬ isLast = true then .cut else .ok []
  | .checks _ done check held =>
    if (held.length : Int) < 2 then .cut
    else if blockTail held = checkBytes (checkAll check (blockRow held)) then .ok (blockRow held) else .wrong (done - 1)
  | .signs done many value => if many = 6 then .cut else if value > 0 then .wrong (done - 1) else .ok []
def ROk : RSt → Prop
  | .add key at_ => 1 ≤ key.length ∧ key.length ≤ 8 ∧ Bys key ∧ 0 ≤ at_ ∧ at_ < (key.length : Int)
  | .front row => row.length = 256 ∧ Bys row
  | .esc e _ _ => By e
  | .runs _ many lastN lastB => By many ∧ By lastN ∧ By lastB
  | .chunks size _ left _ => 1 ≤ size ∧ size ≤ 255 ∧ 0 ≤ left ∧ left ≤ 255
  | .checks size _ check held => 1 ≤ size ∧ size ≤ 255 ∧ 0 ≤ check ∧ check < 65521 ∧ (held.length : Int) < size + 2 ∧ Bys held
  | .signs _ many value => (many = 0 ∨ many = 2 ∨ many = 4 ∨ many = 6) ∧ 0 ≤ value ∧ value < pow2 many
inductive Fault where
  | wrong (layer place : Int)
  | cut (layer : Int)
deriving DecidableEq
/-- what is told; the parts behind it (the outermost first); the fault -/
abbrev Told := Row × List RSt × Option Fault
/-- bytes one after the other, by what one of them brings -/
def rseq (f : List RSt → Int → Told) : List RSt → Row → Told
  | ss, [] => ([], ss, none)
  | ss, b :: r =>
    match f ss b with
    | (o, ss', some x) => (o, ss', some x)
    | (o, ss', none) => (o ++ (rseq f ss' r).1, (rseq f ss' r).2)
/-- one byte through the parts: the list's first is the outermost; n: how many there are -/
def rone : Nat → List RSt → Int → Told
  | 0, ss, b => ([b], ss, none)
  | n + 1, [], b => ([b], [], none)
  | n + 1, s :: ss, b =>
    match rtake s b with
    | .wrong place => ([], s :: ss, some (.wrong (n : Int) place))
    | .ok row s' => ((rseq (rone n) ss row).1, s' :: (rseq (rone n) ss row).2.1, (rseq (rone n) ss row).2.2)
/-- bytes through the parts -/
def rrow (ss : List RSt) (r : Row) : Told := rseq (rone ss.length) ss r
/-- the ends, from the outermost on -/
def rendAll : Nat → List RSt → Row × Option Fault
  | 0, _ => ([], none)
  | n + 1, [] => ([], none)
  | n + 1, s :: ss =>
    match rend s with
    | .wrong place => ([], some (.wrong (n : Int) place))
    | .cut => ([], some (.cut (n : Int)))
    | .ok row =>
      match rseq (rone n) ss row with
      | (o, _, some x) => (o, some x)
      | (o, ss', none) => (o ++ (rendAll n ss').1, (rendAll n ss').2)

/-! ### layers -/
inductive Lay where
  | add (key : Row)
  | front
  | esc (b : Int)
  | runs
  | chunks (n : Int)
  | checks (n : Int)
  | signs
def Lay.Ok : Lay → Prop
  | .add key => 1 ≤ key.length ∧ key.length ≤ 8 ∧ Bys key
  | .front => True
  | .esc b => By b
  | .runs => True
  | .chunks n => 1 ≤ n ∧ n ≤ 255
  | .checks n => 1 ≤ n ∧ n ≤ 255
  | .signs => True
def range256 : Row := (List.range 256).map Int.ofNat
def newW : Lay → WSt
  | .add key => .add key 0
  | .front => .front range256
  | .esc b => .esc b
  | .runs => .runs 0 0
  | .chunks n => .chunks n []
  | .checks n => .checks n 0 0
  | .signs => .signs 0 0
def newR : Lay → RSt
  | .add key => .add key 0
  | .front => .front range256
  | .esc b => .esc b 0 false
  | .runs => .runs 0 0 0 0
  | .chunks n => .chunks n 0 0 false
  | .checks n => .checks n 0 0 []
  | .signs => .signs 0 0 0
/-- the whole stream -/
def written (ls : List Lay) (r : Row) : Row := (wthru (ls.map newW) r).1 ++ wendAll ls.length (wthru (ls.map newW) r).2
/-- the bytes of a whole stream, and the fault -/
def readAll (ls : List Lay) (r : Row) : Row × Option Fault :=
  match rrow (ls.reverse.map newR) r with
  | (o, _, some x) => (o, some x)
  | (o, ss, none) => (o ++ (rendAll ss.length ss).1, (rendAll ss.length ss).2)
end Flow

/-! further steps: loops, comprehensions, rows of ints -/
namespace Flow
open PySem PySem.Spec PyProof.Rows L2
def iV (xs : Row) : List V := xs.map V.int
theorem iV_length (xs : Row) : (iV xs).length = xs.length := List.length_map ..
theorem iV_nil : iV [] = [] := rfl
theorem iV_cons (x : Int) (xs : Row) : iV (x :: xs) = V.int x :: iV xs := rfl
theorem iV_append (xs ys : Row) : iV (xs ++ ys) = iV xs ++ iV ys := List.map_append ..
theorem iV_snoc (xs : Row) (x : Int) : iV (xs ++ [x]) = iV xs ++ [V.int x] := by
  rw [iV_append] <;> rfl
theorem iV_get {xs : Row} {i : Nat} {x : V} (h : (iV xs)[i]? = some x) : ∃ z, xs[i]? = some z ∧ x = V.int z := by
  unfold iV at h
  rw [List.getElem?_map] at h
  cases e : xs[i]? with
  | none =>
    rw [e] at h
    cases h
  | some z =>
    rw [e] at h
    exact ⟨z, rfl, (Option.some.inj h).symm⟩
theorem iV_at {xs : Row} {i : Nat} {z : Int} (h : xs[i]? = some z) : (iV xs)[i]? = some (V.int z) := by
  unfold iV
  rw [List.getElem?_map, h] <;> rfl
theorem gI_nat {xs : Row} {j : Nat} {z : Int} (h : xs[j]? = some z) : gI xs (j : Int) = z := by
  unfold gI
  simp [List.getD, h]
theorem gI_at {xs : Row} {i : Int} (h0 : 0 ≤ i) (h : i < (xs.length : Int)) : atI (iV xs) i = some (V.int (gI xs i)) := by
  obtain ⟨j, rfl⟩ : ∃ j : Nat, i = (j : Int) := ⟨i.toNat, by omega⟩
  have hj : j < xs.length := by omega
  have e := List.getElem?_eq_getElem hj
  rw [gI_nat e]
  exact at_of rfl (iV_at e)
theorem flat_iV (xs : Row) : (iV xs).all flatV = true := flat_ints xs
theorem inV_iV (b : Int) (xs : Row) : inV (.int b) (iV xs) = decide (b ∈ xs) := by
  unfold inV iV
  rw [List.any_map]
  induction xs with
  | nil => rfl
  | cons x r ih =>
    rw [List.any_cons, ih]
    have e : eqV (.int x) (.int b) = (x == b) := rfl
    by_cases h : b = x
    · subst h
      simp [Function.comp, eqV]
    · have h' : ¬ x = b := fun z => h z.symm
      simp [Function.comp, eqV, h, h']
theorem take_more {α : Type} : ∀ {l : List α} {i : Nat} {x : α}, l[i]? = some x → l.take (i + 1) = l.take i ++ [x]
  | [], i, x, h => by simp at h
  | a :: l, 0, x, h => by
    have e : a = x := Option.some.inj h
    subst e
    rfl
  | a :: l, i + 1, x, h => by
    have ih := take_more (l := l) (i := i) (x := x) h
    show a :: l.take (i + 1) = a :: l.take i ++ [x]
    rw [ih]
    rfl
theorem drop_more {α : Type} : ∀ {l : List α} {i : Nat} {x : α}, l[i]? = some x → l.drop i = x :: l.drop (i + 1)
  | [], i, x, h => by simp at h
  | a :: l, 0, x, h => by
    have e : a = x := Option.some.inj h
    subst e
    rfl
  | a :: l, i + 1, x, h => by
    have ih := drop_more (l := l) (i := i) (x := x) h
    show l.drop i = x :: l.drop (i + 1)
    exact ih
section
variable {K : PySem.W.Frag} {σ : L2.St} {H : Hp} {ta tb te tv tl : TE} {t u c tt : TT} {i j : Nat} {v x y : V} {Q : VK} {D : Ends} {g : TG} {ts : TS} {a C dx p l : Addr} {vs xs ys : List V} {m n b : Int} {rw_ ks : Row}
/-! rows of ints -/
theorem eraseIdx_iV : ∀ (xs : Row) (j : Nat), (iV xs).eraseIdx j = iV (xs.eraseIdx j)
  | [], _ => rfl
  | _ :: _, 0 => rfl
  | x :: r, j + 1 => by
    show V.int x :: (iV r).eraseIdx j = V.int x :: iV (r.eraseIdx j)
    rw [eraseIdx_iV r j]
theorem x_inI (h : SqL K H p (iV rw_) ∨ SqT K H p (iV rw_)) (q : Q (.bl (decide (b ∈ rw_))) H) : rIn K false (.int b) (.ref p) H Q :=
  ⟨p, _, rfl, h, rfl, flat_iV _, by rw [inV_iV]; exact q⟩
theorem x_ninI (h : SqL K H p (iV rw_) ∨ SqT K H p (iV rw_)) (q : Q (.bl (!decide (b ∈ rw_))) H) : rIn K true (.int b) (.ref p) H Q :=
  ⟨p, _, rfl, h, rfl, flat_iV _, by rw [inV_iV]; exact q⟩
theorem idx_no {xs : Row} {b z : Int} {m : Nat} (h : m < xs.idxOf b) (hz : xs[m]? = some z) : z ≠ b := by
  intro e
  subst e
  obtain ⟨hm, e⟩ := List.getElem?_eq_some_iff.mp hz
  have h2 := List.not_of_lt_findIdx (p := (· == z)) (xs := xs) (i := m) (by unfold List.idxOf at h; exact h)
  rw [e] at h2
  simp at h2
theorem idx_get {xs : Row} {b : Int} (h : b ∈ xs) : xs[xs.idxOf b]? = some b := by
  have hl : xs.idxOf b < xs.length := List.idxOf_lt_length_of_mem h
  rw [List.getElem?_eq_getElem hl, List.getElem_idxOf]
theorem x_index (h : SqL K H p (iV rw_)) (hm : b ∈ rw_) (q : Q (.int (rw_.idxOf b : Int)) H) : rIndex K (.ref p) [.int b] H Q := by
  refine ⟨p, iV rw_, .int b, rw_.idxOf b, .int b, rfl, rfl, h, rfl, flat_iV _, iV_at (idx_get hm), by simp [eqV], fun m z' hlt hz => ?_, q⟩
  obtain ⟨z, e, rfl⟩ := iV_get hz
  have := idx_no hlt e
  simp [eqV, this]
theorem x_tupIx (h : SqT K H p (iV rw_)) (hm : b ∈ rw_) (q : Q (.int (rw_.idxOf b : Int)) H) : rTupIx K (.ref p) [.int b] H Q := by
  refine ⟨p, rw_, b, rw_.idxOf b, rfl, rfl, h, idx_get hm, fun m hlt hz => idx_no hlt hz rfl, q⟩
theorem seqIx {i n : Nat} (h : i < n) : seqIndex? (i : Int) n = some i := by
  unfold seqIndex?
  simp only [show ¬ ((i : Int) < 0) by omega, if_false]
  first
    | (rw [if_pos (by omega)]; simp)
    | simp [h]
theorem x_popAt (h : H l = some (.lst (iV rw_))) (h0 : 0 ≤ m) (h1 : m < (rw_.length : Int)) (hz : (rw_.length : Int) < 1000000000) (q : Q (.int (gI rw_ m)) (upd H l (.lst (iV (rw_.eraseIdx m.toNat))))) : rPopAt (.ref l) [.int m] H Q := by
  obtain ⟨j, rfl⟩ : ∃ j : Nat, m = (j : Int) := ⟨m.toNat, by omega⟩
  have hj : j < rw_.length := by omega
  refine ⟨l, iV rw_, (j : Int), j, .int (gI rw_ (j : Int)), rfl, rfl, h, by omega, by omega, seqIx (by rw [iV_length]; exact hj), ?_, ?_⟩
  · rw [gI_nat (List.getElem?_eq_getElem hj)]
    exact iV_at (List.getElem?_eq_getElem hj)
  · have e : (iV rw_).eraseIdx j = iV (rw_.eraseIdx j) := by
      exact eraseIdx_iV rw_ j
    rw [e]
    exact q
theorem x_insert0 (h : H l = some (.lst xs)) (hz : xs.length < sizeLine) (q : Q .non (upd H l (.lst (y :: xs)))) : rInsert (.ref l) [.int 0, y] H Q :=
  ⟨l, xs, 0, y, rfl, rfl, h, hz, by decide, by decide, q⟩
theorem x_rep1 (h : H l = some (.lst [x])) (h0 : 0 ≤ m) (h1 : m ≤ 100000) (q : ∀ p, H p = none → Q (.ref p) (upd H p (.lst (List.replicate m.toNat x)))) : rRep (.ref l) (.int m) H Q := by
  refine ⟨l, m, [x], rfl, rfl, h, by omega, by omega, ?_, fun p hp => ?_⟩
  · rw [sizeLine_eq]
    simp only [List.length_singleton]
    omega
  · have e : (List.replicate m.toNat [x]).flatten = List.replicate m.toNat x := by
      generalize m.toNat = k
      induction k with
      | zero => rfl
      | succ k ih => rw [List.replicate_succ, List.flatten_cons, ih, List.replicate_succ] <;> rfl
    rw [e]
    exact q p hp
/-! range as a list -/
def rRg (k : Int → Int → Hp → Prop) : V → Hp → Prop := fun x H1 => ∃ n, x = .int n ∧ k 0 n H1
theorem x_lstRg1 (q : ta σ H fun x H1 => rRg (fun a b H1 => RgOk a b ∧ ∀ q, H1 q = none → Q (.ref q) (upd H1 q (.lst (rgV a b)))) x H1) : tLstRg (tRg1 ta) σ H Q := q
theorem x_rRg {k : Int → Int → Hp → Prop} (q : k 0 m H) : rRg k (.int m) H := ⟨m, rfl, q⟩
/-! tests joined -/
theorem x_andJ {a b : Bool} {B : Bool → Hp → Prop} (ht : ∀ B' : Bool → Hp → Prop, B' a H → t σ H B') (hu : a = true → ∀ B' : Bool → Hp → Prop, B' b H → u σ H B') (h1 : a = true → b = true → B true H) (h2 : (a && b) = false → B false H) : tAnd t u σ H B := by
  refine ht _ ?_
  cases a with
  | false => exact iteF (h2 rfl)
  | true =>
    refine iteT (hu rfl _ ?_)
    cases b with
    | true => exact h1 rfl rfl
    | false => exact h2 rfl
theorem x_orJ {a b : Bool} {B : Bool → Hp → Prop} (ht : ∀ B' : Bool → Hp → Prop, B' a H → t σ H B') (hu : a = false → ∀ B' : Bool → Hp → Prop, B' b H → u σ H B') (h1 : (a || b) = true → B true H) (h2 : a = false → b = false → B false H) : tOr t u σ H B := by
  refine ht _ ?_
  cases a with
  | true => exact iteT (h1 rfl)
  | false =>
    refine iteF (hu rfl _ ?_)
    cases b with
    | true => exact h1 rfl
    | false => exact h2 rfl rfl
/-! loops -/
def rForL (K : PySem.W.Frag) (g : TG) (tb : TS) (D : Ends) (σ : L2.St) : V → Hp → Prop := fun x H1 => ∃ a, x = .ref a ∧ (∃ xs, SqL K H1 a xs) ∧ ∃ W : Nat → Nat → L2.St → Hp → Prop, (∃ m, W 0 m σ H1) ∧ ∀ i m σ H, W i m σ H →
  (((Itl K a).stop i H ∧ D.nx σ H) ∨ ((Itl K a).go i H ∧ ∃ N : L2.St → Hp → Prop, (∀ σ' H', N σ' H' → ∃ m', m' < m ∧ W (i + 1) m' σ' H') ∧ ∀ x H', (Itl K a).yld i H x H' → g x σ H' fun σ2 H2 => tb { D with nx := N, ct := N, bk := D.nx } σ2 H2))
theorem x_forL (q : tl σ H fun x H1 => rForL K g ts D σ x H1) : tFor (iList K tl) g ts D σ H := q
theorem x_rForL (h : SqL K H a xs) (Pv : Nat → L2.St → Hp → Prop) (h0 : Pv 0 σ H) (hl : ∀ i σ H, i ≤ xs.length → Pv i σ H → SqL K H a xs)
    (hs : ∀ i x σ H, xs[i]? = some x → Pv i σ H → g x σ H fun σ2 H2 => ts { D with nx := Pv (i + 1), ct := Pv (i + 1), bk := D.nx } σ2 H2) (hd : ∀ σ H, Pv xs.length σ H → D.nx σ H) : rForL K g ts D σ (.ref a) H :=
  ⟨a, rfl, ⟨xs, h⟩, for_list Pv h0 hl hs hd⟩
def rForR1 (g : TG) (tb : TS) (D : Ends) (σ : L2.St) : List V → Hp → Prop := fun vs H1 => ∃ j : Int, vs = [.int j] ∧ -(2 ^ 62) ≤ j ∧ j < 2 ^ 62 ∧ ∃ W : Nat → Nat → L2.St → Hp → Prop, (∃ m, W 0 m σ H1) ∧ ∀ i m σ H, W i m σ H →
  (((Itr 0 j.toNat).stop i H ∧ D.nx σ H) ∨ ((Itr 0 j.toNat).go i H ∧ ∃ N : L2.St → Hp → Prop, (∀ σ' H', N σ' H' → ∃ m', m' < m ∧ W (i + 1) m' σ' H') ∧ ∀ x H', (Itr 0 j.toNat).yld i H x H' → g x σ H' fun σ2 H2 => tb { D with nx := N, ct := N, bk := D.nx } σ2 H2))
theorem x_forR1 {ta : TA} (q : ta σ H fun vs H1 => rForR1 g ts D σ vs H1) : tFor (iRng1 ta) g ts D σ H := q
theorem x_rForR1 {k : Nat} (hn : n = (k : Int)) (hz : k < 2 ^ 62) (Pv : Nat → L2.St → Hp → Prop) (h0 : Pv 0 σ H)
    (hs : ∀ i σ H, i < k → Pv i σ H → g (.int (i : Int)) σ H fun σ2 H2 => ts { D with nx := Pv (i + 1), ct := Pv (i + 1), bk := D.nx } σ2 H2) (hd : ∀ σ H, Pv k σ H → D.nx σ H) : rForR1 g ts D σ [.int n] H := by
  subst hn
  refine ⟨(k : Int), rfl, by omega, by omega, for_range (lo := 0) (n := (k : Int).toNat) Pv h0 (fun i σ H hi p => ?_) fun σ H p => hd σ H (by rw [Int.toNat_natCast] at p; exact p)⟩
  rw [Int.zero_add]
  exact hs i σ H (by rw [Int.toNat_natCast] at hi; exact hi) p
def rForRev (g : TG) (tb : TS) (D : Ends) (σ : L2.St) : V → Hp → Prop := fun x H0 => ∃ n, x = .int n ∧ (-(2 ^ 62) ≤ (0 : Int) ∧ (0 : Int) < 2 ^ 62 ∧ -(2 ^ 62) ≤ n ∧ n < 2 ^ 62 ∧ ∃ W : Nat → Nat → L2.St → Hp → Prop, (∃ m, W 0 m σ H0) ∧ ∀ i m σ H, W i m σ H →
  (((Itc (0 + (((n - 0).toNat : Nat) : Int) - 1) (-1) (n - 0).toNat).stop i H ∧ D.nx σ H) ∨ ((Itc (0 + (((n - 0).toNat : Nat) : Int) - 1) (-1) (n - 0).toNat).go i H ∧ ∃ N : L2.St → Hp → Prop, (∀ σ' H', N σ' H' → ∃ m', m' < m ∧ W (i + 1) m' σ' H') ∧
    ∀ x H', (Itc (0 + (((n - 0).toNat : Nat) : Int) - 1) (-1) (n - 0).toNat).yld i H x H' → g x σ H' fun σ2 H2 => tb { D with nx := N, ct := N, bk := D.nx } σ2 H2)))
theorem x_forRev (q : ta σ H fun x H1 => rForRev g ts D σ x H1) : tFor (iRevR (tRg1 ta)) g ts D σ H := q
theorem x_rForRev {k : Nat} (hn : n = (k : Int)) (hz : k < 2 ^ 60) (Pv : Nat → L2.St → Hp → Prop) (h0 : Pv 0 σ H)
    (hs : ∀ i σ H, i < k → Pv i σ H → g (.int ((k - 1 - i : Nat) : Int)) σ H fun σ2 H2 => ts { D with nx := Pv (i + 1), ct := Pv (i + 1), bk := D.nx } σ2 H2) (hd : ∀ σ H, Pv k σ H → D.nx σ H) : rForRev g ts D σ (.int n) H := by
  subst hn
  have e0 : (((k : Int) - 0).toNat) = k := by omega
  refine ⟨(k : Int), rfl, by omega, by omega, by omega, by omega, ?_⟩
  rw [e0]
  refine for_rangeC (lo := 0 + (k : Int) - 1) (c := -1) (n := k) Pv h0 (fun i σ H hi p => ?_) hd
  have e1 : (0 + (k : Int) - 1 + (i : Nat) * (-1) : Int) = ((k - 1 - i : Nat) : Int) := by omega
  rw [e1]
  exact hs i σ H hi p
theorem x_while {c : TT} {tb : TS} (W : Nat → L2.St → Hp → Prop) (m0 : Nat) (h0 : W m0 σ H) (hs : ∀ m σ H, W m σ H → c σ H fun b H1 => if b = true then ∃ N : L2.St → Hp → Prop, (∀ σ' H', N σ' H' → ∃ m', m' < m ∧ W m' σ' H') ∧ tb { D with nx := N, ct := N, bk := D.nx } σ H1 else D.nx σ H1) :
    tWhile c tb D σ H := ⟨W, ⟨m0, h0⟩, hs⟩
/-! comprehensions whose elements leave all that stands -/
def gvn (n : Nat) (c : Nat → Bool) (f : Nat → V) : List V := ((List.range n).filter c).map f
theorem gvn_yes {n : Nat} {c : Nat → Bool} {f : Nat → V} (h : c n = true) : gvn (n + 1) c f = gvn n c f ++ [f n] := by
  unfold gvn
  rw [List.range_succ, List.filter_append, List.map_append, List.filter_cons, if_pos h] <;> rfl
theorem gvn_no {n : Nat} {c : Nat → Bool} {f : Nat → V} (h : c n = false) : gvn (n + 1) c f = gvn n c f := by
  unfold gvn
  rw [List.range_succ, List.filter_append, List.map_append, List.filter_cons, if_neg (by rw [h]; decide)]
  show _ ++ [] = _
  rw [List.append_nil]
theorem gvn_len (n : Nat) (c : Nat → Bool) (f : Nat → V) : (gvn n c f).length ≤ n := by
  unfold gvn
  rw [List.length_map]
  have h := List.length_filter_le c (List.range n)
  rw [List.length_range] at h
  exact h
theorem gvn_all (n : Nat) (f : Nat → V) : gvn n (fun _ => true) f = (List.range n).map f := by
  unfold gvn
  rw [List.filter_eq_self.mpr fun _ _ => rfl]
abbrev Ext (H H' : Hp) : Prop := Only' [] H H'
theorem lc_turn {H H' : Hp} {cb : Nat → Bool} {f : Nat → V} {Dl : Addr} {i : Nat} {σ2 : L2.St} (p : H Dl = none ∧ Ext H H' ∧ H' Dl = some (.lst (gvn i cb f))) (hz : i < sizeLine)
    (ht : ∀ H1, Ext H H1 → ∀ B : Bool → Hp → Prop, (∀ H2, Ext H1 H2 → B (cb i) H2) → tt σ2 H1 B) (he : cb i = true → ∀ H1, Ext H H1 → ∀ Q' : VK, (∀ H2, Ext H1 H2 → Q' (f i) H2) → te σ2 H1 Q') :
    tt σ2 H' fun b H3 => if b = true then te σ2 H3 fun y H4 => ∃ acc, H4 Dl = some (.lst acc) ∧ acc.length < sizeLine ∧ (H Dl = none ∧ Ext H (upd H4 Dl (.lst (acc ++ [y]))) ∧ (upd H4 Dl (.lst (acc ++ [y]))) Dl = some (.lst (gvn (i + 1) cb f))) else (H Dl = none ∧ Ext H H3 ∧ H3 Dl = some (.lst (gvn (i + 1) cb f))) := by
  obtain ⟨p1, p2, p3⟩ := p
  refine ht H' p2 _ fun H3 e3 => ?_
  cases hf : cb i with
  | true =>
    refine iteT (he hf H3 (p2.trans e3) _ fun H4 e4 => ⟨gvn i cb f, e4 Dl _ (e3 Dl _ p3 (by simp)) (by simp), Nat.lt_of_le_of_lt (gvn_len i cb f) hz, p1, Only'.put0 ((p2.trans e3).trans e4) p1, ?_⟩)
    rw [gvn_yes hf]
    exact upd_same
  | false =>
    refine iteF ⟨p1, p2.trans e3, ?_⟩
    rw [gvn_no hf]
    exact e3 Dl _ p3 (by simp)
def rLcL (K : PySem.W.Frag) (g : TG) (tt : TT) (te : TE) (vs : List Nat) (σ : L2.St) : V → Hp → VK → Prop := fun x H1 Q => ∃ a, x = .ref a ∧ (∃ xs, SqL K H1 a xs) ∧ ∀ D, H1 D = none → ∃ W : Nat → Nat → Hp → Prop, (∃ m, W 0 m (upd H1 D (.lst []))) ∧ ∀ i m H, W i m H →
  ((Itl K a).stop i H ∧ Q (.ref D) H) ∨ ((Itl K a).go i H ∧ ∃ Nx : Hp → Prop, (∀ H', Nx H' → ∃ m', m' < m ∧ W (i + 1) m' H') ∧ ∀ x H', (Itl K a).yld i H x H' → g x (wipe σ vs) H' fun σ2 H2 => wipe σ2 vs = wipe σ vs ∧ tt σ2 H2 fun b H3 =>
    if b = true then te σ2 H3 fun y H4 => ∃ acc, H4 D = some (.lst acc) ∧ acc.length < sizeLine ∧ Nx (upd H4 D (.lst (acc ++ [y]))) else Nx H3)
theorem x_lcL {ws : List Nat} (q : tl σ H fun x H1 => rLcL K g tt te ws σ x H1 Q) : tLc (iList K tl) g tt te ws σ H Q := q
theorem SqL.ext {K : PySem.W.Frag} {H H' : Hp} {a : Addr} {xs : List V} (e : Ext H H') (h : SqL K H a xs) : SqL K H' a xs := by
  rcases h with (h | ⟨o, h⟩) | h
  · exact .inl (.inl (e _ _ h (by simp)))
  · exact .inl (.inr ⟨o, e _ _ h (by simp)⟩)
  · exact .inr h
theorem SqT.ext {K : PySem.W.Frag} {H H' : Hp} {a : Addr} {xs : List V} (e : Ext H H') (h : SqT K H a xs) : SqT K H' a xs := by
  rcases h with (h | ⟨o, h⟩) | h
  · exact .inl (.inl (e _ _ h (by simp)))
  · exact .inl (.inr ⟨o, e _ _ h (by simp)⟩)
  · exact .inr h
theorem x_rLcLT {ws : List Nat} (cb : Nat → Bool) (f : Nat → V) (h : SqL K H a xs) (hz : xs.length ≤ sizeLine) (hw : ∀ x, wipe ((wipe σ ws).set j (some x)) ws = wipe σ ws)
    (ht : ∀ (i : Nat) x H1, xs[i]? = some x → Ext H H1 → ∀ B : Bool → Hp → Prop, (∀ H2, Ext H1 H2 → B (cb i) H2) → tt ((wipe σ ws).set j (some x)) H1 B)
    (he : ∀ (i : Nat) x H1, xs[i]? = some x → cb i = true → Ext H H1 → ∀ Q' : VK, (∀ H2, Ext H1 H2 → Q' (f i) H2) → te ((wipe σ ws).set j (some x)) H1 Q')
    (q : ∀ p H1, H p = none → Ext H H1 → H1 p = some (.lst (gvn xs.length cb f)) → Q (.ref p) H1) : rLcL K (gName j) tt te ws σ (.ref a) H Q := by
  refine ⟨a, rfl, ⟨xs, h⟩, fun Dl hD => lc_list (K := K) (a := a) (xs := xs) (fun i H' => H Dl = none ∧ Ext H H' ∧ H' Dl = some (.lst (gvn i cb f))) ⟨hD, Only'.put0 Only'.refl hD, upd_same⟩
    (fun i H' _ p => SqL.ext p.2.1 h) (fun i x H' hi p => ⟨hw x, lc_turn p (Nat.lt_of_lt_of_le (List.getElem?_eq_some_iff.mp hi).1 hz) (fun H1 e => ht i x H1 hi e) (fun hc H1 e => he i x H1 hi hc e)⟩) (fun H' p => q Dl H' p.1 p.2.1 p.2.2)⟩
theorem x_rLcL {ws : List Nat} (f : Nat → V) (h : SqL K H a xs) (hz : xs.length ≤ sizeLine) (hw : ∀ x, wipe ((wipe σ ws).set j (some x)) ws = wipe σ ws)
    (he : ∀ (i : Nat) x H1, xs[i]? = some x → Ext H H1 → ∀ Q' : VK, (∀ H2, Ext H1 H2 → Q' (f i) H2) → te ((wipe σ ws).set j (some x)) H1 Q')
    (q : ∀ p H1, H p = none → Ext H H1 → H1 p = some (.lst ((List.range xs.length).map f)) → Q (.ref p) H1) : rLcL K (gName j) tYes te ws σ (.ref a) H Q :=
  x_rLcLT (fun _ => true) f h hz hw (fun i x H1 _ _ B k => k H1 Only'.refl) (fun i x H1 hi _ e => he i x H1 hi e) fun p H1 hp e h1 => q p H1 hp e (by rw [← gvn_all]; exact h1)
def rLcT (K : PySem.W.Frag) (g : TG) (tt : TT) (te : TE) (vs : List Nat) (σ : L2.St) : V → Hp → VK → Prop := fun x H1 Q => ∃ a, x = .ref a ∧ (∃ xs, SqT K H1 a xs) ∧ ∀ D, H1 D = none → ∃ W : Nat → Nat → Hp → Prop, (∃ m, W 0 m (upd H1 D (.lst []))) ∧ ∀ i m H, W i m H →
  ((Itt K a).stop i H ∧ Q (.ref D) H) ∨ ((Itt K a).go i H ∧ ∃ Nx : Hp → Prop, (∀ H', Nx H' → ∃ m', m' < m ∧ W (i + 1) m' H') ∧ ∀ x H', (Itt K a).yld i H x H' → g x (wipe σ vs) H' fun σ2 H2 => wipe σ2 vs = wipe σ vs ∧ tt σ2 H2 fun b H3 =>
    if b = true then te σ2 H3 fun y H4 => ∃ acc, H4 D = some (.lst acc) ∧ acc.length < sizeLine ∧ Nx (upd H4 D (.lst (acc ++ [y]))) else Nx H3)
theorem x_lcT {ws : List Nat} (q : tl σ H fun x H1 => rLcT K g tt te ws σ x H1 Q) : tLc (iTup K tl) g tt te ws σ H Q := q
theorem x_rLcT {ws : List Nat} (f : Nat → V) (h : SqT K H a xs) (hz : xs.length ≤ sizeLine) (hw : ∀ x, wipe ((wipe σ ws).set j (some x)) ws = wipe σ ws)
    (he : ∀ (i : Nat) x H1, xs[i]? = some x → Ext H H1 → ∀ Q' : VK, (∀ H2, Ext H1 H2 → Q' (f i) H2) → te ((wipe σ ws).set j (some x)) H1 Q')
    (q : ∀ p H1, H p = none → Ext H H1 → H1 p = some (.lst ((List.range xs.length).map f)) → Q (.ref p) H1) : rLcT K (gName j) tYes te ws σ (.ref a) H Q := by
  refine ⟨a, rfl, ⟨xs, h⟩, fun Dl hD => lc_tup (K := K) (a := a) (xs := xs) (fun i H' => H Dl = none ∧ Ext H H' ∧ H' Dl = some (.lst (gvn i (fun _ => true) f))) ⟨hD, Only'.put0 Only'.refl hD, upd_same⟩
    (fun i H' _ p => SqT.ext p.2.1 h) (fun i x H' hi p => ⟨hw x, lc_turn (tt := tYes) (cb := fun _ => true) p (Nat.lt_of_lt_of_le (List.getElem?_eq_some_iff.mp hi).1 hz) (fun H1 e B k => k H1 Only'.refl) (fun _ H1 e => he i x H1 hi e)⟩) (fun H' p => q Dl H' p.1 p.2.1 (by rw [← gvn_all]; exact p.2.2))⟩
def rLcR (g : TG) (tt : TT) (te : TE) (ws : List Nat) (σ : L2.St) : List V → Hp → VK → Prop := fun vs H1 Q => ∃ j : Int, vs = [.int j] ∧ -(2 ^ 62) ≤ j ∧ j < 2 ^ 62 ∧ ∀ D, H1 D = none → ∃ W : Nat → Nat → Hp → Prop, (∃ m, W 0 m (upd H1 D (.lst []))) ∧ ∀ i m H, W i m H →
  ((Itr 0 j.toNat).stop i H ∧ Q (.ref D) H) ∨ ((Itr 0 j.toNat).go i H ∧ ∃ Nx : Hp → Prop, (∀ H', Nx H' → ∃ m', m' < m ∧ W (i + 1) m' H') ∧ ∀ x H', (Itr 0 j.toNat).yld i H x H' → g x (wipe σ ws) H' fun σ2 H2 => wipe σ2 ws = wipe σ ws ∧ tt σ2 H2 fun b H3 =>
    if b = true then te σ2 H3 fun y H4 => ∃ acc, H4 D = some (.lst acc) ∧ acc.length < sizeLine ∧ Nx (upd H4 D (.lst (acc ++ [y]))) else Nx H3)
theorem x_lcR {ws : List Nat} {ta : TA} (q : ta σ H fun vs H1 => rLcR g tt te ws σ vs H1 Q) : tLc (iRng1 ta) g tt te ws σ H Q := q
theorem x_rLcRT {ws : List Nat} {k : Nat} (cb : Nat → Bool) (f : Nat → V) (hn : n = (k : Int)) (hz : k ≤ 16777216) (hw : ∀ x, wipe ((wipe σ ws).set j (some x)) ws = wipe σ ws)
    (ht : ∀ (i : Nat) H1, i < k → Ext H H1 → ∀ B : Bool → Hp → Prop, (∀ H2, Ext H1 H2 → B (cb i) H2) → tt ((wipe σ ws).set j (some (.int (i : Int)))) H1 B)
    (he : ∀ (i : Nat) H1, i < k → cb i = true → Ext H H1 → ∀ Q' : VK, (∀ H2, Ext H1 H2 → Q' (f i) H2) → te ((wipe σ ws).set j (some (.int (i : Int)))) H1 Q')
    (q : ∀ p H1, H p = none → Ext H H1 → H1 p = some (.lst (gvn k cb f)) → Q (.ref p) H1) : rLcR (gName j) tt te ws σ [.int n] H Q := by
  subst hn
  refine ⟨(k : Int), rfl, by omega, by omega, ?_⟩
  have ek : (k : Int).toNat = k := Int.toNat_natCast k
  rw [ek]
  refine fun Dl hD => lc_range (lo := 0) (n := k) (fun i H' => H Dl = none ∧ Ext H H' ∧ H' Dl = some (.lst (gvn i cb f))) ⟨hD, Only'.put0 Only'.refl hD, upd_same⟩
    (fun i H' hi p => ?_) (fun H' p => q Dl H' p.1 p.2.1 p.2.2)
  rw [Int.zero_add]
  exact ⟨hw _, lc_turn p (by rw [sizeLine_eq]; omega) (fun H1 e => ht i H1 hi e) (fun hc H1 e => he i H1 hi hc e)⟩
theorem x_rLcR {ws : List Nat} {k : Nat} (f : Nat → V) (hn : n = (k : Int)) (hz : k ≤ 16777216) (hw : ∀ x, wipe ((wipe σ ws).set j (some x)) ws = wipe σ ws)
    (he : ∀ (i : Nat) H1, i < k → Ext H H1 → ∀ Q' : VK, (∀ H2, Ext H1 H2 → Q' (f i) H2) → te ((wipe σ ws).set j (some (.int (i : Int)))) H1 Q')
    (q : ∀ p H1, H p = none → Ext H H1 → H1 p = some (.lst ((List.range k).map f)) → Q (.ref p) H1) : rLcR (gName j) tYes te ws σ [.int n] H Q :=
  x_rLcRT (fun _ => true) f hn hz hw (fun i H1 _ _ B k => k H1 Only'.refl) (fun i H1 hi _ e => he i H1 hi e) fun p H1 hp e h1 => q p H1 hp e (by rw [← gvn_all]; exact h1)
end
/-! slices -/
theorem cutV_iV (xs : Row) (lo hi : Option Int) : cutV (iV xs) lo hi = iV ((xs.drop (HT.sIx xs.length 0 lo)).take (HT.sIx xs.length xs.length hi - HT.sIx xs.length 0 lo)) := by
  unfold cutV
  rw [iV_length]
  unfold iV
  rw [← List.map_drop, ← List.map_take]
theorem cut_from {xs : List V} {a : Int} {k : Nat} (h : a = (k : Int)) : cutV xs (some a) none = xs.drop k := by
  subst h
  unfold cutV
  rw [HT.sIx_nat, HT.sIx_none]
  by_cases hk : k ≤ xs.length
  · rw [Nat.min_eq_left hk, List.take_of_length_le (by rw [List.length_drop]; omega)]
  · rw [Nat.min_eq_right (by omega), List.drop_eq_nil_of_le (Nat.le_refl _), List.drop_eq_nil_of_le (by omega)]
    simp
theorem cut_to {xs : List V} {b : Int} {k : Nat} (h : b = (k : Int)) : cutV xs none (some b) = xs.take k := by
  subst h
  unfold cutV
  rw [HT.sIx_nat, HT.sIx_none]
  show xs.take _ = _
  rw [Nat.sub_zero]
  by_cases hk : k ≤ xs.length
  · rw [Nat.min_eq_left hk]
  · rw [Nat.min_eq_right (by omega), List.take_of_length_le (Nat.le_refl _), List.take_of_length_le (by omega)]
theorem cut_both {xs : List V} {a b : Int} {i k : Nat} (h : a = (i : Int)) (h2 : b = (k : Int)) : cutV xs (some a) (some b) = (xs.drop i).take (k - i) := by
  subst h h2
  unfold cutV
  rw [HT.sIx_nat, HT.sIx_nat]
  by_cases hi : i ≤ xs.length
  · rw [Nat.min_eq_left hi]
    by_cases hk : k ≤ xs.length
    · rw [Nat.min_eq_left hk]
    · rw [Nat.min_eq_right (by omega), List.take_of_length_le (by rw [List.length_drop]; omega), List.take_of_length_le (by rw [List.length_drop]; omega)]
  · rw [List.drop_eq_nil_of_le (show xs.length ≤ min i xs.length by omega), List.drop_eq_nil_of_le (show xs.length ≤ i by omega)]
    simp
theorem cut_toN {xs : List V} {k : Nat} (h : 1 ≤ k) : cutV xs none (some (-(k : Int))) = xs.take (xs.length - k) := by
  have e : HT.sIx xs.length xs.length (some (-(k : Int))) = xs.length - k := by
    show (if (-(k : Int)) < 0 then ((-(k : Int)) + (xs.length : Int)).toNat else min (-(k : Int)).toNat xs.length) = _
    rw [if_pos (by omega)]
    omega
  unfold cutV
  rw [e, HT.sIx_none]
  rfl
theorem cut_fromN {xs : List V} {k : Nat} (h : 1 ≤ k) : cutV xs (some (-(k : Int))) none = xs.drop (xs.length - k) := by
  have e : HT.sIx xs.length 0 (some (-(k : Int))) = xs.length - k := by
    show (if (-(k : Int)) < 0 then ((-(k : Int)) + (xs.length : Int)).toNat else min (-(k : Int)).toNat xs.length) = _
    rw [if_pos (by omega)]
    omega
  unfold cutV
  rw [e, HT.sIx_none, List.take_of_length_le (by rw [List.length_drop]; omega)]
/-! texts, tuples -/
section
variable {K : PySem.W.Frag} {H : Hp} {p : Addr} {Q : VK} {xs : List V}
theorem inV_str (b : Str) (ss : List Str) : inV (.str b) (ss.map V.str) = decide (b ∈ ss) := by
  unfold inV
  rw [List.any_map]
  induction ss with
  | nil => rfl
  | cons x r ih =>
    rw [List.any_cons, ih]
    by_cases h : b = x
    · subst h
      simp [Function.comp, eqV]
    · have h' : ¬ x = b := fun z => h z.symm
      simp [Function.comp, eqV, h, h']
theorem x_inS {b : Str} (ss : List Str) (h : SqL K H p (ss.map V.str) ∨ SqT K H p (ss.map V.str)) (q : Q (.bl (decide (b ∈ ss))) H) : rIn K false (.str b) (.ref p) H Q :=
  ⟨p, _, rfl, h, rfl, by rw [List.all_map]; exact List.all_eq_true.mpr fun _ _ => rfl, by rw [inV_str]; exact q⟩
theorem x_slT {lo hi : Option Int} (h : SqT K H p xs) (n : ¬ (HT.sIx xs.length 0 lo = 0 ∧ HT.sIx xs.length xs.length hi = xs.length)) (q : ∀ l, H l = none → Q (.ref l) (upd H l (.tup (cutV xs lo hi)))) : rSlT K (.ref p) lo hi H Q := ⟨p, xs, rfl, h, n, q⟩
theorem x_all {a : Addr} (bs : List Bool) (h : SqL K H a (bs.map V.bl)) (q : Q (.bl (bs.all id)) H) : rAll K [.ref a] H Q := ⟨a, bs, rfl, h, q⟩
end
/-! fields -/
theorem pf_nil {f : Str} {v : V} : putF f v [] = [(f, v)] := rfl
theorem pf_hit {f : Str} {v u : V} {r : List (Str × V)} : putF f v ((f, u) :: r) = (f, v) :: r := by
  show (if f = f then _ else _) = _
  rw [if_pos rfl]
theorem pf_miss {f g : Str} {v u : V} {r r' : List (Str × V)} (h : ¬ g = f) (e : putF f v r = r') : putF f v ((g, u) :: r) = (g, u) :: r' := by
  show (if g = f then _ else (g, u) :: putF f v r) = _
  rw [if_neg h, e]
/-! methods of one class -/
section
variable {P : Program} {w : World} {K : PySem.W.Frag} {mg : Str → Option Value} {base : Heap} {k j : Nat} {f C : Addr} {m : Str} {ps : List Str} {sp : Sp}
theorem meth1 (c : Cls K C) (M : Meth K C m f) (D : DefOk P w K mg base j f ps sp) : ∀ C', C' = C → MethOk P w K mg base j C' m ps ((fun _ => sp) C') := fun C' e => by
  subst e
  exact ⟨c, f, M, D⟩
end
end Flow

/-! the mirror keeps to bytes -/
namespace Flow
theorem bys_nil : Bys [] := fun _ h => nomatch h
theorem bys_cons {b : Int} {r : Row} (h : By b) (hr : Bys r) : Bys (b :: r) := fun x hx => by
  rcases List.mem_cons.mp hx with e | hx
  · rw [e]; exact h
  · exact hr x hx
theorem bys_app {r t : Row} (h : Bys r) (ht : Bys t) : Bys (r ++ t) := fun x hx => by
  rcases List.mem_append.mp hx with hx | hx
  · exact h x hx
  · exact ht x hx
theorem Bys.head {b : Int} {r : Row} (h : Bys (b :: r)) : By b := h b (List.mem_cons_self ..)
theorem Bys.tail {b : Int} {r : Row} (h : Bys (b :: r)) : Bys r := fun x hx => h x (List.mem_cons_of_mem _ hx)
theorem by_mod (a : Int) : By (a % 256) := ⟨Int.emod_nonneg _ (by decide), Int.emod_lt_of_pos _ (by decide)⟩
theorem gI_mem {xs : Row} {i : Int} (h0 : 0 ≤ i) (h : i < (xs.length : Int)) : gI xs i ∈ xs := by
  unfold gI
  have hj : i.toNat < xs.length := by omega
  have e : xs.getD i.toNat 0 = xs[i.toNat] := by simp [List.getD, hj]
  rw [e]
  exact List.getElem_mem hj
theorem signs_by : Bys signsT := by
  intro b hb
  have h : signsT.all (fun b => decide (0 ≤ b) && decide (b < 256)) = true := by decide
  have h2 := List.all_eq_true.mp h b hb
  simp at h2
  exact h2
theorem sign_by {i : Int} (h0 : 0 ≤ i) (h : i < 64) : By (signOf i) := signs_by _ (gI_mem h0 h)
theorem next_in (c b : Int) : 0 ≤ nextCheck c b ∧ nextCheck c b < 65521 := ⟨Int.emod_nonneg _ (by decide), Int.emod_lt_of_pos _ (by decide)⟩
theorem checkBytes_by {c : Int} (h0 : 0 ≤ c) (h : c < 65521) : Bys (checkBytes c) := bys_cons ⟨by omega, by omega⟩ (bys_cons (by_mod c) bys_nil)
theorem pw0 : pow2 0 = 1 := rfl
theorem pw1 : pow2 1 = 2 := rfl
theorem pw2 : pow2 2 = 4 := rfl
theorem pw4 : pow2 4 = 16 := rfl
theorem pw6 : pow2 6 = 64 := rfl
theorem mem_moveFront {row : Row} {k : Nat} (hk : k < row.length) {x : Int} : x ∈ moveFront row k ↔ x ∈ row := by
  unfold moveFront
  have e : row.getD k 0 = row[k] := by simp [List.getD, hk]
  rw [e]
  constructor
  · intro h
    rcases List.mem_cons.mp h with h | h
    · rw [h]; exact List.getElem_mem hk
    · exact List.mem_of_mem_eraseIdx h
  · intro h
    obtain ⟨j, hj, ej⟩ := List.mem_iff_getElem.mp h
    by_cases hjk : j = k
    · subst hjk
      rw [← ej]
      exact List.mem_cons_self ..
    · refine List.mem_cons_of_mem _ ?_
      rw [← ej]
      exact List.mem_eraseIdx_iff_getElem.mpr ⟨j, hj, hjk, rfl⟩
theorem length_moveFront {row : Row} {k : Nat} (hk : k < row.length) : (moveFront row k).length = row.length := by
  unfold moveFront
  rw [List.length_cons, List.length_eraseIdx, if_pos hk]
  omega
theorem wtake_ok {s : WSt} {b : Int} (hs : WOk s) (hb : By b) : WOk (wtake s b).2 ∧ Bys (wtake s b).1 := by
  cases s with
  | add key at_ =>
    obtain ⟨h1, h2, h3, h4, h5⟩ := hs
    refine ⟨⟨h1, h2, h3, Int.emod_nonneg _ (by omega), Int.emod_lt_of_pos _ (by omega)⟩, bys_cons (by_mod _) bys_nil⟩
  | front row =>
    obtain ⟨h1, h2⟩ := hs
    have hlt : row.idxOf b < row.length := List.idxOf_lt_length_of_mem (h2 b hb)
    refine ⟨⟨by rw [length_moveFront hlt]; exact h1, fun x hx => (mem_moveFront hlt).mpr (h2 x hx)⟩, bys_cons ⟨by omega, by omega⟩ bys_nil⟩
  | esc e =>
    refine ⟨hs, ?_⟩
    show Bys (escOut e b)
    unfold escOut
    split
    · exact bys_cons (by_mod _) (bys_cons (by_mod _) bys_nil)
    · split
      · exact bys_cons (by_mod _) (bys_cons (by_mod _) bys_nil)
      · exact bys_cons hb bys_nil
  | runs many byte =>
    obtain ⟨h1, h2, h3⟩ := hs
    show WOk (takeRuns many byte b).2 ∧ Bys (takeRuns many byte b).1
    unfold takeRuns
    split
    · exact ⟨⟨by decide, by decide, hb⟩, bys_cons ⟨h1, by omega⟩ (bys_cons h3 bys_nil)⟩
    · split
      · exact ⟨⟨by decide, by decide, hb⟩, bys_cons ⟨by decide, by decide⟩ (bys_cons hb bys_nil)⟩
      · exact ⟨⟨by omega, by omega, hb⟩, bys_nil⟩
  | chunks size held =>
    obtain ⟨h1, h2, h3, h4⟩ := hs
    show WOk (takeChunks size held b).2 ∧ Bys (takeChunks size held b).1
    unfold takeChunks
    have hl : ((held ++ [b]).length : Int) = held.length + 1 := by simp
    split
    · exact ⟨⟨h1, h2, by simp; omega, bys_nil⟩, bys_cons ⟨by omega, by omega⟩ (bys_app h4 (bys_cons hb bys_nil))⟩
    · exact ⟨⟨h1, h2, by omega, bys_app h4 (bys_cons hb bys_nil)⟩, bys_nil⟩
  | checks size many check =>
    obtain ⟨h1, h2, h3, h4, h5, h6⟩ := hs
    obtain ⟨n1, n2⟩ := next_in check b
    show WOk (takeChecks size many check b).2 ∧ Bys (takeChecks size many check b).1
    unfold takeChecks
    split
    · exact ⟨⟨h1, h2, by omega, by assumption, n1, n2⟩, bys_cons hb bys_nil⟩
    · exact ⟨⟨h1, h2, by omega, by omega, n1, n2⟩, bys_cons hb (checkBytes_by n1 n2)⟩
  | signs many value =>
    obtain ⟨h1, h2, h3⟩ := hs
    obtain ⟨b0, b1⟩ := hb
    show WOk (takeSigns many value b).2 ∧ Bys (takeSigns many value b).1
    unfold takeSigns
    rcases h1 with rfl | rfl | rfl
    · rw [pw0] at h3
      rw [if_neg (by decide)]
      have e : pow2 (0 + 2) = 4 := rfl
      rw [e]
      refine ⟨⟨Or.inr (Or.inl rfl), by omega, by show _ < pow2 2; rw [pw2]; omega⟩, bys_cons (sign_by (by omega) (by omega)) bys_nil⟩
    · rw [pw2] at h3
      rw [if_neg (by decide)]
      have e : pow2 (2 + 2) = 16 := rfl
      rw [e]
      refine ⟨⟨Or.inr (Or.inr rfl), by omega, by show _ < pow2 4; rw [pw4]; omega⟩, bys_cons (sign_by (by omega) (by omega)) bys_nil⟩
    · rw [pw4] at h3
      rw [if_pos (by decide)]
      have e : pow2 (4 + 2) = 64 := rfl
      have e2 : pow2 (4 + 2 - 6) = 1 := rfl
      rw [e, e2]
      refine ⟨⟨Or.inl rfl, by omega, by show _ < pow2 0; rw [pw0]; omega⟩, bys_cons (sign_by (by omega) (by omega)) (bys_cons (sign_by (by omega) (by omega)) bys_nil)⟩
theorem wend_ok {s : WSt} (hs : WOk s) : WOk (wended s) ∧ Bys (wend s) := by
  cases s with
  | add key at_ => exact ⟨hs, bys_nil⟩
  | front row => exact ⟨hs, bys_nil⟩
  | esc e => exact ⟨hs, bys_nil⟩
  | runs many byte =>
    obtain ⟨h1, h2, h3⟩ := hs
    refine ⟨⟨by decide, by decide, h3⟩, ?_⟩
    show Bys (if many = 0 then [] else [many, byte])
    split
    · exact bys_nil
    · exact bys_cons ⟨h1, by omega⟩ (bys_cons h3 bys_nil)
  | chunks size held =>
    obtain ⟨h1, h2, h3, h4⟩ := hs
    exact ⟨⟨h1, h2, by simp; omega, bys_nil⟩, bys_cons ⟨by omega, by omega⟩ h4⟩
  | checks size many check =>
    obtain ⟨h1, h2, h3, h4, h5, h6⟩ := hs
    exact ⟨⟨h1, h2, by omega, by omega, h5, h6⟩, checkBytes_by h5 h6⟩
  | signs many value =>
    obtain ⟨h1, h2, h3⟩ := id hs
    refine ⟨hs, ?_⟩
    show Bys (if many = 0 then [] else _)
    rcases h1 with rfl | rfl | rfl
    · exact bys_nil
    · rw [pw2] at h3
      have e : pow2 (6 - 2) = 16 := rfl
      rw [if_neg (by decide), e]
      exact bys_cons (sign_by (by omega) (by omega)) bys_nil
    · rw [pw4] at h3
      have e : pow2 (6 - 4) = 4 := rfl
      rw [if_neg (by decide), e]
      exact bys_cons (sign_by (by omega) (by omega)) bys_nil
theorem wfeed_ok : ∀ {r : Row} {s : WSt}, WOk s → Bys r → WOk (wfeed s r).2 ∧ Bys (wfeed s r).1
  | [], s, hs, _ => ⟨hs, bys_nil⟩
  | b :: r, s, hs, hr => by
    obtain ⟨h1, h2⟩ := wtake_ok hs hr.head
    obtain ⟨h3, h4⟩ := wfeed_ok (r := r) h1 hr.tail
    exact ⟨h3, bys_app h2 h4⟩
def WOks (ss : List WSt) : Prop := ∀ s, s ∈ ss → WOk s
theorem WOks.head {s : WSt} {ss : List WSt} (h : WOks (s :: ss)) : WOk s := h s (List.mem_cons_self ..)
theorem WOks.tail {s : WSt} {ss : List WSt} (h : WOks (s :: ss)) : WOks ss := fun x hx => h x (List.mem_cons_of_mem _ hx)
theorem woks_cons {s : WSt} {ss : List WSt} (h : WOk s) (h2 : WOks ss) : WOks (s :: ss) := fun x hx => by
  rcases List.mem_cons.mp hx with e | hx
  · rw [e]; exact h
  · exact h2 x hx
theorem wthru_ok : ∀ {ss : List WSt} {r : Row}, WOks ss → Bys r → WOks (wthru ss r).2 ∧ Bys (wthru ss r).1 ∧ (wthru ss r).2.length = ss.length
  | [], r, hs, hr => ⟨hs, hr, rfl⟩
  | s :: ss, r, hs, hr => by
    obtain ⟨h1, h2⟩ := wfeed_ok hs.head hr
    obtain ⟨h3, h4, h5⟩ := wthru_ok (ss := ss) hs.tail h2
    exact ⟨woks_cons h1 h3, h4, congrArg Nat.succ h5⟩
theorem range256_mem {b : Int} (h : By b) : b ∈ range256 := by
  obtain ⟨h0, h1⟩ := h
  unfold range256
  rw [List.mem_map]
  exact ⟨b.toNat, List.mem_range.mpr (by omega), by show ((b.toNat : Nat) : Int) = b; omega⟩
theorem range256_by : Bys range256 := fun b hb => by
  unfold range256 at hb
  obtain ⟨i, hi, rfl⟩ := List.mem_map.mp hb
  have := List.mem_range.mp hi
  show 0 ≤ (i : Int) ∧ (i : Int) < 256
  omega
theorem range256_len : range256.length = 256 := by
  unfold range256
  rw [List.length_map, List.length_range]
theorem newW_ok {l : Lay} (h : l.Ok) : WOk (newW l) := by
  cases l with
  | add key =>
    obtain ⟨h1, h2, h3⟩ := h
    exact ⟨h1, h2, h3, by decide, by omega⟩
  | front => exact ⟨range256_len, fun b hb => range256_mem hb⟩
  | esc b => exact h
  | runs => exact ⟨by decide, by decide, by decide, by decide⟩
  | chunks n => exact ⟨h.1, h.2, by simp; have := h.1; omega, bys_nil⟩
  | checks n => exact ⟨h.1, h.2, by decide, by have := h.1; omega, by decide, by decide⟩
  | signs => exact ⟨Or.inl rfl, by decide, by decide⟩
/-! readers -/
theorem Bys.sub {r t : Row} (h : Bys r) (hs : ∀ x, x ∈ t → x ∈ r) : Bys t := fun x hx => h x (hs x hx)
theorem checkAll_ok : ∀ (c : Int) (r : Row), 0 ≤ c → c < 65521 → 0 ≤ checkAll c r ∧ checkAll c r < 65521
  | _, [], h0, h1 => ⟨h0, h1⟩
  | c, x :: r, _, _ => checkAll_ok (nextCheck c x) r (next_in c x).1 (next_in c x).2
theorem idx_sign {b : Int} (h : b ∈ signsT) : signsT.idxOf b < 64 := List.idxOf_lt_length_of_mem h
theorem rtake_ok {s : RSt} {b : Int} (hs : ROk s) (hb : By b) {row : Row} {s' : RSt} (h : rtake s b = .ok row s') : ROk s' ∧ Bys row := by
  cases s with
  | add key at_ =>
    obtain ⟨h1, h2, h3, h4, h5⟩ := hs
    injection h with e1 e2
    subst e1 e2
    exact ⟨⟨h1, h2, h3, Int.emod_nonneg _ (by omega), Int.emod_lt_of_pos _ (by omega)⟩, bys_cons (by_mod _) bys_nil⟩
  | front r =>
    obtain ⟨h1, h2⟩ := hs
    obtain ⟨b0, b1⟩ := hb
    injection h with e1 e2
    subst e1 e2
    have hk : b.toNat < r.length := by omega
    exact ⟨⟨by rw [length_moveFront hk]; exact h1, fun x hx => h2 x ((mem_moveFront hk).mp hx)⟩, bys_cons (h2 _ (gI_mem b0 (by omega))) bys_nil⟩
  | esc e done marked =>
    simp only [rtake] at h
    split at h
    · split at h
      · injection h with e1 e2
        subst e1 e2
        exact ⟨hs, bys_cons (by_mod _) bys_nil⟩
      · split at h
        · injection h with e1 e2
          subst e1 e2
          exact ⟨hs, bys_cons (by_mod _) bys_nil⟩
        · cases h
    · split at h
      · cases h
      · split at h
        · injection h with e1 e2
          subst e1 e2
          exact ⟨hs, bys_nil⟩
        · injection h with e1 e2
          subst e1 e2
          exact ⟨hs, bys_cons hb bys_nil⟩
  | runs done many lastN lastB =>
    obtain ⟨h1, h2, h3⟩ := hs
    simp only [rtake] at h
    split at h
    · split at h
      · cases h
      · injection h with e1 e2
        subst e1 e2
        exact ⟨⟨hb, h2, h3⟩, bys_nil⟩
    · split at h
      · cases h
      · injection h with e1 e2
        subst e1 e2
        refine ⟨⟨by unfold By; decide, h1, hb⟩, fun x hx => ?_⟩
        rw [List.eq_of_mem_replicate hx]
        exact hb
  | chunks size done left isLast =>
    obtain ⟨h1, h2, h3, h4⟩ := hs
    obtain ⟨b0, b1⟩ := hb
    simp only [rtake] at h
    split at h
    · injection h with e1 e2
      subst e1 e2
      exact ⟨⟨h1, h2, by omega, by omega⟩, bys_cons ⟨b0, b1⟩ bys_nil⟩
    · split at h
      · cases h
      · injection h with e1 e2
        subst e1 e2
        exact ⟨⟨h1, h2, b0, by omega⟩, bys_nil⟩
  | checks size done check held =>
    obtain ⟨h1, h2, h3, h4, h5, h6⟩ := hs
    have hh : Bys (held ++ [b]) := bys_app h6 (bys_cons hb bys_nil)
    simp only [rtake] at h
    have hl : ((held ++ [b]).length : Int) = held.length + 1 := by simp
    split at h
    · split at h
      · injection h with e1 e2
        subst e1 e2
        obtain ⟨c1, c2⟩ := checkAll_ok check (blockRow (held ++ [b])) h3 h4
        exact ⟨⟨h1, h2, c1, c2, by simp; omega, bys_nil⟩, hh.sub fun x hx => List.mem_of_mem_take hx⟩
      · cases h
    · injection h with e1 e2
      subst e1 e2
      exact ⟨⟨h1, h2, h3, h4, by omega, hh⟩, bys_nil⟩
  | signs done many value =>
    obtain ⟨h1, h2, h3⟩ := hs
    simp only [rtake] at h
    split at h
    · rename_i hm
      have hi := idx_sign hm
      split at h
      · rename_i hc
        injection h with e1 e2
        subst e1 e2
        have hm0 : many = 0 := by omega
        subst hm0
        rw [pw0] at h3
        exact ⟨⟨Or.inr (Or.inr (Or.inr rfl)), by omega, by show _ < pow2 6; rw [pw6]; omega⟩, bys_nil⟩
      · rename_i hc
        injection h with e1 e2
        subst e1 e2
        rcases h1 with rfl | rfl | rfl | rfl
        · exact absurd (show (0 : Int) + 6 < 8 by decide) hc
        · rw [pw2] at h3
          rw [show pow2 (2 - 2) = 1 from rfl]
          exact ⟨⟨Or.inl rfl, by omega, by show _ < pow2 0; rw [pw0]; omega⟩, bys_cons ⟨by omega, by omega⟩ bys_nil⟩
        · rw [pw4] at h3
          rw [show pow2 (4 - 2) = 4 from rfl]
          exact ⟨⟨Or.inr (Or.inl rfl), by omega, by show _ < pow2 2; rw [pw2]; omega⟩, bys_cons ⟨by omega, by omega⟩ bys_nil⟩
        · rw [pw6] at h3
          rw [show pow2 (6 - 2) = 16 from rfl]
          exact ⟨⟨Or.inr (Or.inr (Or.inl rfl)), by omega, by show _ < pow2 4; rw [pw4]; omega⟩, bys_cons ⟨by omega, by omega⟩ bys_nil⟩
    · cases h
theorem rend_ok {s : RSt} (hs : ROk s) {row : Row} (h : rend s = .ok row) : Bys row := by
  cases s with
  | add key at_ => injection h with e; subst e; exact bys_nil
  | front r => injection h with e; subst e; exact bys_nil
  | esc e done marked =>
    simp only [rend] at h
    split at h
    · cases h
    · injection h with e; subst e; exact bys_nil
  | runs done many lastN lastB =>
    simp only [rend] at h
    split at h
    · cases h
    · injection h with e; subst e; exact bys_nil
  | chunks size done left isLast =>
    simp only [rend] at h
    split at h
    · cases h
    · injection h with e; subst e; exact bys_nil
  | checks size done check held =>
    obtain ⟨h1, h2, h3, h4, h5, h6⟩ := hs
    simp only [rend] at h
    split at h
    · cases h
    · split at h
      · injection h with e
        subst e
        exact h6.sub fun x hx => List.mem_of_mem_take hx
      · cases h
  | signs done many value =>
    simp only [rend] at h
    split at h
    · cases h
    · split at h
      · cases h
      · injection h with e; subst e; exact bys_nil
theorem newR_ok {l : Lay} (h : l.Ok) : ROk (newR l) := by
  cases l with
  | add key =>
    obtain ⟨h1, h2, h3⟩ := h
    exact ⟨h1, h2, h3, by decide, by omega⟩
  | front => exact ⟨range256_len, range256_by⟩
  | esc b => exact h
  | runs => exact ⟨by unfold By; decide, by unfold By; decide, by unfold By; decide⟩
  | chunks n => exact ⟨h.1, h.2, by decide, by decide⟩
  | checks n => exact ⟨h.1, h.2, by decide, by decide, by simp; have := h.1; omega, bys_nil⟩
  | signs => exact ⟨Or.inl rfl, by decide, by decide⟩
/-- a row of pieces of like bytes -/
def flatR (pcs : List (Nat × Int)) : Row := (pcs.map fun q => List.replicate q.1 q.2).flatten
theorem flatR_snoc (pcs : List (Nat × Int)) (n : Nat) (b : Int) : flatR (pcs ++ [(n, b)]) = flatR pcs ++ List.replicate n b := by
  unfold flatR
  simp
end Flow

/-! parts side by side: objects with what they own, none of them touching another -/
namespace Flow
open PySem PySem.Spec PyProof.Rows L2
def flat : List (Addr × Addr) → List Addr
  | [] => []
  | x :: r => x.1 :: x.2 :: flat r
theorem mem_flat : ∀ {ps : List (Addr × Addr)} {x : Addr}, x ∈ flat ps ↔ ∃ (i : Nat) (p l : Addr), ps[i]? = some (p, l) ∧ (x = p ∨ x = l)
  | [], x => by simp [flat]
  | (p, l) :: r, x => by
    unfold flat
    rw [List.mem_cons, List.mem_cons, mem_flat (ps := r)]
    constructor
    · rintro (h | h | ⟨i, p', l', h, h'⟩)
      · exact ⟨0, p, l, rfl, Or.inl h⟩
      · exact ⟨0, p, l, rfl, Or.inr h⟩
      · exact ⟨i + 1, p', l', h, h'⟩
    · rintro ⟨i, p', l', h, h'⟩
      cases i with
      | zero =>
        have e : (p, l) = (p', l') := Option.some.inj h
        injection e with e1 e2
        subst e1 e2
        rcases h' with h' | h'
        · exact Or.inl h'
        · exact Or.inr (Or.inl h')
      | succ i => exact Or.inr (Or.inr ⟨i, p', l', h, h'⟩)
theorem flat_app : ∀ (a b : List (Addr × Addr)), flat (a ++ b) = flat a ++ flat b
  | [], b => rfl
  | x :: a, b => by
    show x.1 :: x.2 :: flat (a ++ b) = x.1 :: x.2 :: (flat a ++ flat b)
    rw [flat_app a b]
/-- no two places alike -/
theorem nd_set : ∀ {ps : List (Addr × Addr)} {i : Nat} {p l l' : Addr}, (flat ps).Nodup → ps[i]? = some (p, l) → (l' = l ∨ l' ∉ flat ps) → (flat (ps.set i (p, l'))).Nodup
  | [], i, p, l, l', _, h, _ => by simp at h
  | (a, b) :: r, 0, p, l, l', nd, h, hl => by
    have e : (a, b) = (p, l) := Option.some.inj h
    injection e with e1 e2
    subst e1 e2
    show (a :: l' :: flat r).Nodup
    rcases hl with hl | hl
    · rw [hl]; exact nd
    · have nd2 : (a :: b :: flat r).Nodup := nd
      have hl2 : l' ≠ a ∧ l' ≠ b ∧ l' ∉ flat r := by
        have : l' ∉ a :: b :: flat r := hl
        simpa using this
      have h1 := List.nodup_cons.mp nd2
      have h2 := List.nodup_cons.mp h1.2
      refine List.nodup_cons.mpr ⟨?_, List.nodup_cons.mpr ⟨hl2.2.2, h2.2⟩⟩
      intro hm
      rcases List.mem_cons.mp hm with hm | hm
      · exact hl2.1 hm.symm
      · exact h1.1 (List.mem_cons_of_mem _ hm)
  | (a, b) :: r, i + 1, p, l, l', nd, h, hl => by
    have nd2 : (a :: b :: flat r).Nodup := nd
    have h1 := List.nodup_cons.mp nd2
    have h2 := List.nodup_cons.mp h1.2
    have hr : r[i]? = some (p, l) := h
    have hl' : l' = l ∨ l' ∉ flat r := hl.imp id fun z => fun hm => z (List.mem_cons_of_mem _ (List.mem_cons_of_mem _ hm))
    have ih := nd_set h2.2 hr hl'
    have sub : ∀ x, x ∈ flat (r.set i (p, l')) → x ∈ flat r ∨ x = l' := by
      intro x hx
      obtain ⟨j, p2, l2, hj, hx2⟩ := mem_flat.mp hx
      by_cases hji : i = j
      · subst hji
        have hlt : i < r.length := (List.getElem?_eq_some_iff.mp hr).1
        rw [List.getElem?_set_self hlt] at hj
        have e := Option.some.inj hj
        injection e with e1 e2
        subst e1 e2
        rcases hx2 with hx2 | hx2
        · exact Or.inl (mem_flat.mpr ⟨i, _, _, hr, Or.inl hx2⟩)
        · exact Or.inr hx2
      · rw [List.getElem?_set_ne hji] at hj
        exact Or.inl (mem_flat.mpr ⟨j, p2, l2, hj, hx2⟩)
    have lin : l ∈ flat r := mem_flat.mpr ⟨i, p, l, hr, Or.inr rfl⟩
    show (a :: b :: flat (r.set i (p, l'))).Nodup
    have nl : ∀ x, x = a ∨ x = b → x ≠ l' := by
      intro x hx e
      subst e
      rcases hl with hl | hl
      · rw [← hl] at lin
        rcases hx with hx | hx
        · subst hx
          exact h1.1 (List.mem_cons_of_mem _ lin)
        · subst hx
          exact h2.1 lin
      · exact hl (show x ∈ a :: b :: flat r by rcases hx with hx | hx <;> simp [hx])
    refine List.nodup_cons.mpr ⟨fun hm => ?_, List.nodup_cons.mpr ⟨fun hm => ?_, ih⟩⟩
    · rcases List.mem_cons.mp hm with hm | hm
      · exact h1.1 (by rw [hm]; exact List.mem_cons_self ..)
      · rcases sub a hm with hm | hm
        · exact h1.1 (List.mem_cons_of_mem _ hm)
        · exact nl a (Or.inl rfl) hm
    · rcases sub b hm with hm | hm
      · exact h2.1 hm
      · exact nl b (Or.inr rfl) hm
section
variable {S : Type}
structure PartsP (A : Hp → Addr → Addr → S → Prop) : Prop where
  keep : ∀ (H H' : Hp) (p l : Addr) (s : S), A H p l s → (∀ o, H p = some o → H' p = some o) → (∀ o, H l = some o → H' l = some o) → A H' p l s
  trk : ∀ (H : Hp) (p l : Addr) (s : S), A H p l s → (∃ o, H p = some o) ∧ ∃ o, H l = some o
structure Good (A : Hp → Addr → Addr → S → Prop) (H : Hp) (ps : List (Addr × Addr)) (ss : List S) : Prop where
  len : ps.length = ss.length
  at_ : ∀ (i : Nat) (p l : Addr) (s : S), ps[i]? = some (p, l) → ss[i]? = some s → A H p l s
  nd : (flat ps).Nodup
structure Step (A : Hp → Addr → Addr → S → Prop) (X : List Addr) (H : Hp) (ps : List (Addr × Addr)) (ss : List S) (H' : Hp) (ps' : List (Addr × Addr)) (ss' : List S) : Prop where
  good : Good A H' ps' ss'
  fst : ps'.map (·.1) = ps.map (·.1)
  old : ∀ x, x ∈ flat ps' → x ∈ flat ps ∨ H x = none
  only : Only' (X ++ flat ps) H H'
variable {A : Hp → Addr → Addr → S → Prop} {X X' : List Addr} {H H' H1 H2 : Hp} {ps ps1 ps2 : List (Addr × Addr)} {ss ss1 ss2 : List S} {p l l' f : Addr} {s s' : S} {i : Nat} {o : HO}
theorem Good.trk (P : PartsP A) (g : Good A H ps ss) {x : Addr} (hx : x ∈ flat ps) : ∃ o, H x = some o := by
  obtain ⟨i, p, l, h, hx⟩ := mem_flat.mp hx
  have hi : i < ss.length := by rw [← g.len]; exact (List.getElem?_eq_some_iff.mp h).1
  obtain ⟨h1, h2⟩ := P.trk _ _ _ _ (g.at_ i p l _ h (List.getElem?_eq_getElem hi))
  rcases hx with hx | hx
  · rw [hx]; exact h1
  · rw [hx]; exact h2
theorem Good.ext (P : PartsP A) (g : Good A H ps ss) {Z : List Addr} (e : Only' Z H H') (hz : ∀ x, x ∈ flat ps → x ∉ Z) : Good A H' ps ss := by
  refine ⟨g.len, fun i p l s h1 h2 => ?_, g.nd⟩
  exact P.keep H H' p l s (g.at_ i p l s h1 h2) (fun o h => e p o h (hz p (mem_flat.mpr ⟨i, p, l, h1, Or.inl rfl⟩))) (fun o h => e l o h (hz l (mem_flat.mpr ⟨i, p, l, h1, Or.inr rfl⟩)))
theorem Step.refl (g : Good A H ps ss) : Step A X H ps ss H ps ss := ⟨g, rfl, fun x hx => Or.inl hx, Only'.refl⟩
theorem Step.trans (a : Step A X H ps ss H1 ps1 ss1) (b : Step A X H1 ps1 ss1 H2 ps2 ss2) : Step A X H ps ss H2 ps2 ss2 := by
  refine ⟨b.good, b.fst.trans a.fst, fun x hx => ?_, ⟨fun c u hc hn => ?_, fun c u hc => ?_⟩⟩
  · rcases b.old x hx with h | h
    · exact a.old x h
    · exact Or.inr (a.only.free h)
  · have h1 := a.only c u hc hn
    refine b.only c u h1 fun hm => ?_
    rcases List.mem_append.mp hm with hm | hm
    · exact hn (List.mem_append_left _ hm)
    · rcases a.old c hm with h | h
      · exact hn (List.mem_append_right _ h)
      · rw [hc] at h; cases h
  · obtain ⟨u1, h1⟩ := a.only.more c u hc
    exact b.only.more c u1 h1
/-- one part has turned -/
theorem Step.one (P : PartsP A) (g : Good A H ps ss) (hp : ps[i]? = some (p, l)) (hs : ss[i]? = some s) (h : A H' p l' s') (hl : l' = l ∨ H l' = none) (o : Only' [p, l] H H') : Step A X H ps ss H' (ps.set i (p, l')) (ss.set i s') := by
  have hlt : i < ps.length := (List.getElem?_eq_some_iff.mp hp).1
  have hlt2 : i < ss.length := (List.getElem?_eq_some_iff.mp hs).1
  have pin : p ∈ flat ps := mem_flat.mpr ⟨i, p, l, hp, Or.inl rfl⟩
  have lin : l ∈ flat ps := mem_flat.mpr ⟨i, p, l, hp, Or.inr rfl⟩
  have hln : l' = l ∨ l' ∉ flat ps := hl.imp id fun z hm => by
    obtain ⟨u, e⟩ := g.trk P hm
    rw [z] at e
    cases e
  -- two parts do not touch one another
  have apart : ∀ (j : Nat) (q m : Addr), ps[j]? = some (q, m) → j ≠ i → q ∉ [p, l] ∧ m ∉ [p, l] := by
    intro j q m hj hne
    have key : ∀ (ps : List (Addr × Addr)) (i j : Nat), (flat ps).Nodup → ps[i]? = some (p, l) → ps[j]? = some (q, m) → j ≠ i → q ∉ [p, l] ∧ m ∉ [p, l] := by
      intro ps
      induction ps with
      | nil => intro i j _ h; simp at h
      | cons x r ih =>
        intro i j nd hi hj hne
        obtain ⟨a, b⟩ := x
        have nd2 : (a :: b :: flat r).Nodup := nd
        have h1 := List.nodup_cons.mp nd2
        have h2 := List.nodup_cons.mp h1.2
        cases i with
        | zero =>
          cases j with
          | zero => exact absurd rfl hne
          | succ j =>
            have e := Option.some.inj hi
            injection e with e1 e2
            subst e1 e2
            have qin : q ∈ flat r := mem_flat.mpr ⟨j, q, m, hj, Or.inl rfl⟩
            have min : m ∈ flat r := mem_flat.mpr ⟨j, q, m, hj, Or.inr rfl⟩
            have n1 : a ∉ flat r := fun z => h1.1 (List.mem_cons_of_mem _ z)
            refine ⟨?_, ?_⟩
            · intro z
              rcases List.mem_cons.mp z with z | z
              · exact n1 (z ▸ qin)
              · exact h2.1 ((List.mem_singleton.mp z) ▸ qin)
            · intro z
              rcases List.mem_cons.mp z with z | z
              · exact n1 (z ▸ min)
              · exact h2.1 ((List.mem_singleton.mp z) ▸ min)
        | succ i =>
          cases j with
          | zero =>
            have e := Option.some.inj hj
            injection e with e1 e2
            subst e1 e2
            have pin : p ∈ flat r := mem_flat.mpr ⟨i, p, l, hi, Or.inl rfl⟩
            have lin : l ∈ flat r := mem_flat.mpr ⟨i, p, l, hi, Or.inr rfl⟩
            have n1 : a ∉ flat r := fun z => h1.1 (List.mem_cons_of_mem _ z)
            refine ⟨?_, ?_⟩
            · intro z
              rcases List.mem_cons.mp z with z | z
              · exact n1 (z ▸ pin)
              · exact n1 ((List.mem_singleton.mp z) ▸ lin)
            · intro z
              rcases List.mem_cons.mp z with z | z
              · exact h2.1 (z ▸ pin)
              · exact h2.1 ((List.mem_singleton.mp z) ▸ lin)
          | succ j => exact ih i j h2.2 hi hj fun z => hne (congrArg Nat.succ z)
    exact key ps i j g.nd hp hj hne
  refine ⟨⟨?_, fun j q m t h1 h2 => ?_, nd_set g.nd hp hln⟩, ?_, fun x hx => ?_, ?_⟩
  · rw [List.length_set, List.length_set]; exact g.len
  · by_cases hji : i = j
    · subst hji
      rw [List.getElem?_set_self hlt] at h1
      rw [List.getElem?_set_self hlt2] at h2
      have e := Option.some.inj h1
      injection e with e1 e2
      have e3 := Option.some.inj h2
      subst e1 e2 e3
      exact h
    · rw [List.getElem?_set_ne hji] at h1 h2
      obtain ⟨n1, n2⟩ := apart j q m h1 (fun z => hji z.symm)
      exact P.keep H H' q m t (g.at_ j q m t h1 h2) (fun u hu => o q u hu n1) (fun u hu => o m u hu n2)
  · rw [List.map_set]
    refine List.ext_getElem? fun j => ?_
    by_cases hji : i = j
    · subst hji
      rw [List.getElem?_set_self (by rw [List.length_map]; exact hlt), List.getElem?_map, hp]
      rfl
    · rw [List.getElem?_set_ne hji]
  · obtain ⟨j, q, m, hj, hx⟩ := mem_flat.mp hx
    by_cases hji : i = j
    · subst hji
      rw [List.getElem?_set_self hlt] at hj
      have e := Option.some.inj hj
      injection e with e1 e2
      subst e1 e2
      rcases hx with hx | hx
      · rw [hx]; exact Or.inl pin
      · rw [hx]
        rcases hl with z | z
        · rw [z]; exact Or.inl lin
        · exact Or.inr z
    · rw [List.getElem?_set_ne hji] at hj
      exact Or.inl (mem_flat.mpr ⟨j, q, m, hj, hx⟩)
  · refine o.mono fun a ha => List.mem_append_right _ ?_
    rcases List.mem_cons.mp ha with z | z
    · rw [z]; exact pin
    · rw [List.mem_singleton.mp z]; exact lin
/-- one of the X is written -/
theorem Step.put (P : PartsP A) (a : Step A X H ps ss H1 ps1 ss1) (hf : f ∈ X) (n : f ∉ flat ps1) : Step A X H ps ss (upd H1 f o) ps1 ss1 := by
  refine ⟨a.good.ext P (Z := [f]) (Only'.put Only'.refl (List.mem_cons_self ..)) fun x hx hz => n (by rw [← List.mem_singleton.mp hz]; exact hx), a.fst, a.old, a.only.put (List.mem_append_left _ hf)⟩
/-- what stands elsewhere is no part's, behind it either -/
theorem Step.out (a : Step A X H ps ss H1 ps1 ss1) {u : HO} (hf : H f = some u) (n : f ∉ flat ps) : f ∉ flat ps1 := fun hm => by
  rcases a.old f hm with h | h
  · exact n h
  · rw [hf] at h; cases h
/-- something new is laid -/
theorem Step.new (P : PartsP A) (a : Step A X H ps ss H1 ps1 ss1) (hf : H1 f = none) : Step A X H ps ss (upd H1 f o) ps1 ss1 := by
  refine ⟨a.good.ext P (Z := []) (Only'.put0 Only'.refl hf) (fun _ _ h => nomatch h), a.fst, a.old, a.only.put0 (a.only.free hf)⟩
theorem Step.ext (P : PartsP A) (a : Step A X H ps ss H1 ps1 ss1) (e : Only' [] H1 H2) : Step A X H ps ss H2 ps1 ss1 :=
  ⟨a.good.ext P e (fun _ _ h => nomatch h), a.fst, a.old, a.only.trans (e.mono fun _ h => nomatch h)⟩
/-- from an earlier heap on -/
theorem Step.pre (e : Only' X' H H1) (a : Step A X H1 ps ss H2 ps2 ss2) (hx : ∀ x, x ∈ X → x ∈ X' ∨ H x = none) : Step A X' H ps ss H2 ps2 ss2 := by
  refine ⟨a.good, a.fst, fun x hx => (a.old x hx).imp id fun z => e.free z, ⟨fun c u hc hn => ?_, fun c u hc => ?_⟩⟩
  · have h1 := e c u hc fun z => hn (List.mem_append_left _ z)
    refine a.only c u h1 fun hm => ?_
    rcases List.mem_append.mp hm with hm | hm
    · rcases hx c hm with z | z
      · exact hn (List.mem_append_left _ z)
      · rw [hc] at z; cases z
    · exact hn (List.mem_append_right _ hm)
  · obtain ⟨u1, h1⟩ := e.more c u hc
    exact a.only.more c u1 h1
theorem Step.wide (a : Step A X H ps ss H1 ps1 ss1) (hx : ∀ x, x ∈ X → x ∈ X') : Step A X' H ps ss H1 ps1 ss1 := a.pre (X' := X') Only'.refl fun x h => Or.inl (hx x h)
theorem Step.len (a : Step A X H ps ss H1 ps1 ss1) : ps1.length = ps.length := by
  have := congrArg List.length a.fst
  rw [List.length_map, List.length_map] at this
  exact this
end
/-- addresses of parts as values -/
def pV (ps : List (Addr × Addr)) : List V := ps.map fun x => V.ref x.1
theorem pV_fst {ps ps' : List (Addr × Addr)} (h : ps'.map (·.1) = ps.map (·.1)) : pV ps' = pV ps := by
  unfold pV
  have e : ∀ qs : List (Addr × Addr), qs.map (fun x => V.ref x.1) = (qs.map (·.1)).map V.ref := fun qs => by rw [List.map_map] <;> rfl
  rw [e, e, h]
theorem pV_at {ps : List (Addr × Addr)} {i : Nat} {p l : Addr} (h : ps[i]? = some (p, l)) : (pV ps)[i]? = some (V.ref p) := by
  unfold pV
  rw [List.getElem?_map, h] <;> rfl
theorem pV_get {ps : List (Addr × Addr)} {i : Nat} {x : V} (h : (pV ps)[i]? = some x) : ∃ p l, ps[i]? = some (p, l) ∧ x = V.ref p := by
  unfold pV at h
  rw [List.getElem?_map] at h
  cases e : ps[i]? with
  | none => rw [e] at h; cases h
  | some q =>
    rw [e] at h
    exact ⟨q.1, q.2, rfl, (Option.some.inj h).symm⟩
theorem pV_len (ps : List (Addr × Addr)) : (pV ps).length = ps.length := List.length_map ..
end Flow

/-! steps that the laws' own text wants -/
namespace Flow
open PySem PySem.Spec PyProof.Rows L2
/-! rules inside a comprehension, whose reading must not name the block -/
theorem ix_listK {X : Cx} (K : PySem.W.Frag) (h : X.K = K) : IxR X (rIxL K) := h ▸ ix_list
theorem ix_tupK {X : Cx} (K : PySem.W.Frag) (h : X.K = K) : IxR X (rIxT K) := h ▸ ix_tup
theorem op_inK {X : Cx} (K : PySem.W.Frag) (h : X.K = K) : OpR X (compareOp .In) (rIn K false) := h ▸ op_in_seq
theorem op_ninK {X : Cx} (K : PySem.W.Frag) (h : X.K = K) : OpR X (compareOp .NotIn) (rIn K true) := h ▸ op_notIn_seq
theorem sl_listK {X : Cx} (K : PySem.W.Frag) (h : X.K = K) : SlR X (rSlL K) := h ▸ sl_list
theorem sl_tupK {X : Cx} (K : PySem.W.Frag) (h : X.K = K) : SlR X (rSlT K) := h ▸ sl_tup
theorem call_lenK {X : Cx} (K : PySem.W.Frag) (h : X.K = K) : CallR X (.builtin "len") (rLen K) := h ▸ call_lenS
theorem call_isiK2 {X : Cx} (K : PySem.W.Frag) (h : X.K = K) : CallR X (.builtin "isinstance") (rIsi K) := h ▸ call_isi
section
variable {K : PySem.W.Frag} {σ : L2.St} {H : Hp} {ta tb te tv : TE} {t u : TT} {B : Bool → Hp → Prop} {i k : Int} {Q : VK} {p a : Addr} {xs ys vs : List V} {row : Row}
theorem x_tupleOfL (h : SqL K H p ys) (q : ∀ l, H l = none → Q (.ref l) (upd H l (.tup ys))) : rTupleOf K [.ref p] H Q := ⟨p, ys, rfl, Or.inl ⟨h, q⟩⟩
theorem x_truL (h : SqL K H p xs) (q : B (!xs.isEmpty) H) : rTru K (.ref p) H B := ⟨_, Or.inl ⟨xs, h, rfl⟩, q⟩
theorem x_catT (h : SqT K H p xs) (h2 : SqT K H a ys) (hx : xs ≠ []) (hy : ys ≠ []) (hz : xs.length + ys.length ≤ sizeLine) (q : ∀ r, H r = none → Q (.ref r) (upd H r (.tup (xs ++ ys)))) : rCatT K (.ref p) (.ref a) H Q :=
  ⟨p, a, xs, ys, rfl, rfl, h, h2, hx, hz, fun e => absurd e hy, fun _ => q⟩
theorem x_isiI {T : String} {b : Bool} (h : kitB "int" T = some b) (q : Q (.bl b) H) : rIsi K [.int i, .ty T] H Q := ⟨.int i, .ty T, .type "int", .type T, b, rfl, .ty T, .base (.int i), kit_ty h, q⟩
theorem x_isiL {T : String} {b : Bool} (e : H p = some (.lst xs)) (h : kitB "list" T = some b) (q : Q (.bl b) H) : rIsi K [.ref p, .ty T] H Q := ⟨.ref p, .ty T, .type "list", .type T, b, rfl, .ty T, .base (.lst e), kit_ty h, q⟩
theorem x_isiT {T : String} {b : Bool} (e : H p = some (.tup xs)) (h : kitB "tuple" T = some b) (q : Q (.bl b) H) : rIsi K [.ref p, .ty T] H Q := ⟨.ref p, .ty T, .type "tuple", .type T, b, rfl, .ty T, .base (.tup e), kit_ty h, q⟩
theorem x_intB {b : Bool} (q : Q (.int (if b then 1 else 0)) H) : rInt1 [.bl b] H Q := Or.inr ⟨b, rfl, q⟩
theorem x_sum (h : SqL K H a (iV row)) (q : Q (.int row.sum) H) : rSum K [.ref a] H Q := ⟨a, row, rfl, h, q⟩
/-- a list of ints that was just written, at a place -/
theorem x_ixI (row : Row) (h : H p = some (.lst (iV row))) (h0 : 0 ≤ i) (h1 : i < (row.length : Int)) (q : ∀ z, z ∈ row → Q (.int z) H) : rIxL K (.ref p) (.int i) H Q :=
  x_ixL (SqL.of h) (gI_at h0 h1) (q _ (gI_mem h0 h1))
/-- .. of texts -/
theorem x_ixW (ws : List Str) (h : H p = some (.lst (ws.map V.str))) (h0 : 0 ≤ i) (h1 : i < (ws.length : Int)) (q : ∀ z, z ∈ ws → Q (.str z) H) : rIxL K (.ref p) (.int i) H Q := by
  obtain ⟨j, rfl⟩ : ∃ j : Nat, i = (j : Int) := ⟨i.toNat, by omega⟩
  have hj : j < ws.length := by omega
  refine x_ixL (SqL.of h) (at_of rfl (by rw [List.getElem?_map, List.getElem?_eq_getElem hj]; rfl)) (q _ (List.getElem_mem hj))
/-- .. of anything -/
theorem x_ixV (vs : List V) (h : H p = some (.lst vs)) (h0 : 0 ≤ i) (h1 : i < (vs.length : Int)) (q : ∀ z, z ∈ vs → Q z H) : rIxL K (.ref p) (.int i) H Q := by
  obtain ⟨j, rfl⟩ : ∃ j : Nat, i = (j : Int) := ⟨i.toNat, by omega⟩
  have hj : j < vs.length := by omega
  exact x_ixL (SqL.of h) (at_of rfl (List.getElem?_eq_getElem hj)) (q _ (List.getElem_mem hj))
def rRg2 (σ : L2.St) (tb : TE) (k : Int → Int → Hp → Prop) : V → Hp → Prop := fun x H1 => tb σ H1 fun y H2 => ∃ i j, x = .int i ∧ y = .int j ∧ k i j H2
theorem x_lstRg2 (q : ta σ H fun x H1 => tb σ H1 fun y H2 => ∃ i j, x = .int i ∧ y = .int j ∧ RgOk i j ∧ ∀ q, H2 q = none → Q (.ref q) (upd H2 q (.lst (rgV i j)))) : tLstRg (tRg2 ta tb) σ H Q := q
theorem x_forR1b {j : Int} (h : V.int j = V.int i) : j = i := V.int.inj h
theorem by_in {z : Int} {row : Row} (h : Bys row) (hz : z ∈ row) : By z := h z hz
end
end Flow

/-! rows, layers and what is told, as data that may be compared -/
namespace Flow
open PySem PySem.Spec PyProof.Rows L2
theorem keep {H : Hp} {a b : Addr} {o u : HO} (h : H b = some u) (n : H a = none) : upd H a o b = some u := upd_get (ne_of_none h n) h
def rowD (r : Row) : PyData := .list (r.map .int)
theorem lay_ints : ∀ r : Row, PyData.canLayAll0 (r.map .int) = true
  | [] => by simp [PyData.canLayAll0]
  | x :: r => by simp [PyData.canLayAll0, PyData.canLay0, lay_ints r]
theorem depth_ints : ∀ r : Row, PyData.depthAll (r.map .int) = 0
  | [] => by simp [PyData.depthAll]
  | x :: r => by simp [PyData.depthAll, PyData.depth, depth_ints r]
theorem shaped_of {d : PyData} (h : d.canLay0 = true) (h2 : d.depth ≤ 64) : SeqAt.shaped d = true := by
  show (d.canLay0 && decide (d.depth ≤ 64)) = true
  rw [h, decide_eq_true h2]
  rfl
theorem row_shaped (r : Row) : SeqAt.shaped (rowD r) = true := shaped_of (by simp only [rowD, PyData.canLay0]; exact lay_ints r) (by simp only [rowD, PyData.depth]; rw [depth_ints]; decide)
theorem eqv_ints : ∀ a b : Row, PyData.eqvAll (a.map .int) (b.map .int) = decide (a = b)
  | [], [] => by simp [PyData.eqvAll]
  | [], y :: b => by simp [PyData.eqvAll]
  | x :: a, [] => by simp [PyData.eqvAll]
  | x :: a, y :: b => by
    have ih := eqv_ints a b
    have e : PyData.eqvAll ((x :: a).map .int) ((y :: b).map .int) = ((x == y) && PyData.eqvAll (a.map .int) (b.map .int)) := by simp only [List.map_cons, PyData.eqvAll, PyData.eqv]
    rw [e, ih]
    by_cases h : x = y
    · subst h
      simp
    · simp [h]
theorem row_eqv (a b : Row) : PyData.eqv (rowD a) (rowD b) = decide (a = b) := by
  have e : PyData.eqv (rowD a) (rowD b) = PyData.eqvAll (a.map .int) (b.map .int) := by simp only [rowD, PyData.eqv]
  rw [e, eqv_ints]
section
variable {K : PySem.W.Frag} {H : Hp} {a : Addr} {r : Row}
theorem dp_ints : ∀ r : Row, DpAll K H (iV r) (r.map .int)
  | [] => .nil
  | x :: r => .cons (.int x) (dp_ints r)
theorem dp_row (h : SqL K H a (iV r)) : Dp K H (.ref a) (rowD r) := .lst h (dp_ints r)
def layD (ly : Lay) : PyData := .tuple (.str (lk ly) :: (la ly).map .int)
where
  lk : Lay → Str
    | .add _ => "add"
    | .front => "front"
    | .esc _ => "escape"
    | .runs => "runs"
    | .chunks _ => "chunks"
    | .checks _ => "checks"
    | .signs => "signs"
  la : Lay → Row
    | .add key => key
    | .front => []
    | .esc b => [b]
    | .runs => []
    | .chunks n => [n]
    | .checks n => [n]
    | .signs => []
theorem lk_ok (ly : Lay) : PyData.strOk (layD.lk ly) = true := by
  cases ly
  · show PyData.strOk ("add" : Str) = true
    decide +kernel
  · decide +kernel
  · show PyData.strOk ("escape" : Str) = true
    decide +kernel
  · decide +kernel
  · show PyData.strOk ("chunks" : Str) = true
    decide +kernel
  · show PyData.strOk ("checks" : Str) = true
    decide +kernel
  · decide +kernel
theorem layD_lay (ly : Lay) : (layD ly).canLay0 = true := by
  unfold layD
  simp only [PyData.canLay0, PyData.canLayAll0]
  rw [lk_ok, lay_ints]
  rfl
theorem layD_depth (ly : Lay) : (layD ly).depth = 1 := by
  unfold layD
  simp only [PyData.depth, PyData.depthAll]
  rw [depth_ints]
  decide
theorem dp_lay {ly : Lay} (h : SqT K H a (.str (layD.lk ly) :: iV (layD.la ly))) : Dp K H (.ref a) (layD ly) := .tup h (.cons (.str _) (dp_ints _))
def laysD (l : List Lay) : PyData := .list (l.map layD)
theorem laysD_lay : ∀ l : List Lay, PyData.canLayAll0 (l.map layD) = true
  | [] => by simp [PyData.canLayAll0]
  | x :: l => by simp [PyData.canLayAll0, layD_lay x, laysD_lay l]
theorem laysD_depth : ∀ l : List Lay, PyData.depthAll (l.map layD) ≤ 1
  | [] => by simp [PyData.depthAll]
  | x :: l => by
    have h1 := laysD_depth l
    have h2 := layD_depth x
    simp only [List.map_cons, PyData.depthAll]
    omega
theorem lays_shaped (l : List Lay) : SeqAt.shaped (laysD l) = true := by
  refine shaped_of (by simp only [laysD, PyData.canLay0]; exact laysD_lay l) ?_
  have := laysD_depth l
  simp only [laysD, PyData.depth]
  omega
theorem dp_lays : ∀ {ts : List Addr} {l : List Lay}, ts.length = l.length → (∀ (i : Nat) (t : Addr) (ly : Lay), ts[i]? = some t → l[i]? = some ly → SqT K H t (.str (layD.lk ly) :: iV (layD.la ly))) → DpAll K H (ts.map V.ref) (l.map layD)
  | [], [], _, _ => .nil
  | [], _ :: _, h, _ => by simp at h
  | _ :: _, [], h, _ => by simp at h
  | t :: ts, ly :: l, h, g => .cons (dp_lay (g 0 t ly rfl rfl)) (dp_lays (by simpa using h) fun i u x h1 h2 => g (i + 1) u x h1 h2)
/-- a row of layers beside an empty list -/
theorem lays_nil (l : List Lay) : PyData.eqv (laysD l) (.list []) = decide (l = []) := by
  cases l with
  | nil => simp [laysD, PyData.eqv, PyData.eqvAll]
  | cons x r =>
    rw [decide_eq_false (by intro z; cases z)]
    simp [laysD, PyData.eqv, PyData.eqvAll]
theorem nil_shaped : SeqAt.shaped (.list []) = true := row_shaped []
theorem dp_nil (h : SqL K H a []) : Dp K H (.ref a) (.list []) := .lst h .nil
theorem x_eqD {x y : V} {d e : PyData} {Q : VK} (h1 : Dp K H x d) (h2 : Dp K H y e) (s1 : SeqAt.shaped d = true) (s2 : SeqAt.shaped e = true) (q : Q (.bl (PyData.eqv d e)) H) : rEqD K x y H Q := ⟨d, e, h1, h2, s1, s2, q⟩
theorem x_neD {x y : V} {d e : PyData} {Q : VK} (h1 : Dp K H x d) (h2 : Dp K H y e) (s1 : SeqAt.shaped d = true) (s2 : SeqAt.shaped e = true) (q : Q (.bl (!PyData.eqv d e)) H) : rNeD K x y H Q := ⟨d, e, h1, h2, s1, s2, q⟩
end
end Flow

/-! the end: the law's own def; a try as one reading -/
namespace Flow
open PySem PySem.Spec PyProof.Rows L2
def tTryE (K : PySem.W.Frag) (l : List Clause) (tb : WX → TS) : TS := fun D σ H => tb (wEach K (fun _ _ _ _ => False) D l) D σ H
theorem ps_try0 {X : Cx} {body : List Stmt} {h₀ : ExceptHandler} {hds : List ExceptHandler} {l : List Clause} {pos : Pos} {tb : WX → TS} (hs : X.stack = X.env :: X.outer) (hf : X.env.frame = some X.env.locals) (tk : Takes X (fun _ _ _ _ => False))
    (hh : Clauses X (h₀ :: hds) l) (hb : ∀ (W : WX) (pn : List (Addr × Obj)) (xe : Value → Shared → Prop), Takes (X.tr pn xe) W → PassesOwn (model X.prog X.w) X.A X.env xe → PSs (X.tr pn xe) body (tb W)) :
    PS X (.Try body (h₀ :: hds) [] [] pos) (tTryE X.K l tb) := ps_try_each hs hf tk hb hh
/-! a body with a try, piece by piece -/
section
variable {X : Cx} {s : Stmt} {ss : List Stmt} {R : TS → Prop} {t1 u : TS}
theorem drv_go {D : Ends} {σ0 : L2.St} {H : Hp} (h : ∃ t, PSs X ss t ∧ (fun t : TS => t D σ0 H) t) : ∃ (t : TS) (σ : L2.St), PSs X ss t ∧ σ = σ0 ∧ t D σ H := by
  obtain ⟨t, a, b⟩ := h
  exact ⟨t, σ0, a, rfl, b⟩
theorem drv_cons (h1 : PS X s t1) (h : ∃ u, PSs X ss u ∧ (fun u => R (tSeq t1 u)) u) : ∃ t, PSs X (s :: ss) t ∧ R t := by
  obtain ⟨u, a, b⟩ := h
  exact ⟨_, pss_cons h1 a, b⟩
theorem drv_end (h : PSs X ss u) (r : R u) : ∃ t, PSs X ss t ∧ R t := ⟨u, h, r⟩
end
/-- a tuple of the text's top that bears no dict -/
def tupNB (K : PySem.W.Frag) (x : Str) : Bool := match K.lookup (He.ga K x) with
  | some ⟨.type c, none, _, _⟩ => decide (c = "tuple")
  | _ => false
theorem tupNB_ok {K : PySem.W.Frag} {x : Str} (h : tupNB K x = true) : ∃ o, K.lookup (He.ga K x) = some o ∧ o.cls = .type "tuple" ∧ o.dict = none := by
  unfold tupNB at h
  split at h
  · rename_i c _ _ e
    exact ⟨_, e, congrArg Value.type (of_decide_eq_true h), rfl⟩
  · cases h
section
variable {P : Program} {w : World} {K : PySem.W.Frag} {mg : Str → Option Value} {base : Heap} {k : Nat} {f : Addr} {ps : List Str} {sp : Sp} {fd : FuncData}
/-- the law's def, its function object at hand -/
theorem law_ok {x qual : Str} {st : Stmt} {N : List Str} (F : FunD K x qual (defArgs st) (defBody st) (defScope st) [] [] f fd) (S : FnScope N ps (defScope st))
    (len : ∀ vs H Q E, sp vs H Q E → vs.length = ps.length)
    (go : ∀ (cdv : Value) (A : Around) (outer : List Env) (s : Shared) (H : Hp) (vs : List V) (Q : VK) (E : XK), Room k (A.deeper (envOfC qual (defScope st) s.heap.objs.size f cdv)) → sp vs H Q E →
      ∃ (t : TS) (σ : L2.St), PSs (cxOf (L2.CX P w) P w K mg base N qual (defScope st) f cdv A outer s H E) (defBody st) t ∧ σ = start N vs ∧ t { nx := fun _ H' => Q .non H', rt := Q } σ H) : FnOk P w K mg base (L2.CX P w) (k + 1) f fd ps sp :=
  F.ok S len fun cdv A outer s H vs Q E hr h => by
    obtain ⟨t, σ, a, e, b⟩ := go cdv A outer s H vs Q E hr h
    subst e
    exact ⟨t, a, b⟩
/-- a promise that lets nothing through -/
theorem nox (F : FnOk P w K mg base (L2.CX P w) k f fd ps sp) : FnOk P w K mg base CX0 k f fd ps (fun vs H Q _ => sp vs H Q E0) := by
  refine ⟨fun vs H Q _ h => F.len vs H Q E0 h, fun A outer s H args us vs Q E hr he hb hv h => ?_⟩
  refine codeAny_mono (F.run A outer s H args us vs Q E0 hr he hb hv h) fun r s' c => ?_
  cases r with
  | error e =>
    obtain ⟨_, _, _, _, _, _, _, _, _, _, _, _, z⟩ := c
    exact z.elim
  | ok fl => cases fl <;> exact c
end
end Flow

/-! plain: readings one behind the other: lengths, good states -/
namespace Flow
def ROks (ss : List RSt) : Prop := ∀ s, s ∈ ss → ROk s
theorem rone_len : ∀ (n : Nat) (ss : List RSt) (b : Int), (rone n ss b).2.1.length = ss.length
  | 0, ss, b => rfl
  | n + 1, [], b => rfl
  | n + 1, s :: ss, b => by
    have key : ∀ (r : Row) (ss : List RSt), (rseq (rone n) ss r).2.1.length = ss.length := by
      intro r
      induction r with
      | nil => intro ss; rfl
      | cons x r ih =>
        intro ss
        have h1 := rone_len n ss x
        show (match rone n ss x with | (o, ss', some y) => (o, ss', some y) | (o, ss', none) => (o ++ (rseq (rone n) ss' r).1, (rseq (rone n) ss' r).2)).2.1.length = _
        split
        · rename_i e
          rw [e] at h1
          exact h1
        · rename_i ss' e
          rw [e] at h1
          exact (ih ss').trans h1
    show (match rtake s b with | .wrong place => (([], s :: ss, some (.wrong (n : Int) place)) : Told) | .ok row s' => ((rseq (rone n) ss row).1, s' :: (rseq (rone n) ss row).2.1, (rseq (rone n) ss row).2.2)).2.1.length = _
    split
    · rfl
    · rw [List.length_cons, key, List.length_cons]
theorem rseq_cons (f : List RSt → Int → Told) (ss : List RSt) (b : Int) (r : Row) : rseq f ss (b :: r) = (match f ss b with
    | (o, ss', some x) => (o, ss', some x)
    | (o, ss', none) => (o ++ (rseq f ss' r).1, (rseq f ss' r).2)) := rfl
theorem rone_oks : ∀ (n : Nat) (ss : List RSt) (b : Int), ROks ss → By b → ROks (rone n ss b).2.1 ∧ Bys (rone n ss b).1
  | 0, ss, b, h, hb => ⟨h, bys_cons hb bys_nil⟩
  | n + 1, [], b, h, hb => ⟨h, bys_cons hb bys_nil⟩
  | n + 1, s :: ss, b, h, hb => by
    have hs : ROk s := h s (List.mem_cons_self ..)
    have ht : ROks ss := fun x hx => h x (List.mem_cons_of_mem _ hx)
    have key : ∀ (r : Row) (ss : List RSt), ROks ss → Bys r → ROks (rseq (rone n) ss r).2.1 ∧ Bys (rseq (rone n) ss r).1 := by
      intro r
      induction r with
      | nil => intro ss h _; exact ⟨h, bys_nil⟩
      | cons x r ih =>
        intro ss h hr
        have h1 := rone_oks n ss x h hr.head
        rw [rseq_cons]
        split
        · rename_i e
          rw [e] at h1
          exact h1
        · rename_i ss' e
          rw [e] at h1
          have h2 := ih ss' h1.1 hr.tail
          exact ⟨h2.1, bys_app h1.2 h2.2⟩
    show ROks (match rtake s b with | .wrong place => (([], s :: ss, some (.wrong (n : Int) place)) : Told) | .ok row s' => ((rseq (rone n) ss row).1, s' :: (rseq (rone n) ss row).2.1, (rseq (rone n) ss row).2.2)).2.1 ∧ Bys (match rtake s b with | .wrong place => (([], s :: ss, some (.wrong (n : Int) place)) : Told) | .ok row s' => ((rseq (rone n) ss row).1, s' :: (rseq (rone n) ss row).2.1, (rseq (rone n) ss row).2.2)).1
    split
    · exact ⟨h, bys_nil⟩
    · rename_i row s' e
      obtain ⟨k1, k2⟩ := rtake_ok hs hb e
      obtain ⟨k3, k4⟩ := key row ss ht k2
      refine ⟨fun x hx => ?_, k4⟩
      rcases List.mem_cons.mp hx with z | z
      · rw [z]; exact k1
      · exact k3 x z
theorem rseq_oks (n : Nat) : ∀ (r : Row) (ss : List RSt), ROks ss → Bys r → ROks (rseq (rone n) ss r).2.1 ∧ Bys (rseq (rone n) ss r).1
  | [], ss, h, _ => ⟨h, bys_nil⟩
  | x :: r, ss, h, hr => by
    have h1 := rone_oks n ss x h hr.head
    rw [rseq_cons]
    split
    · rename_i e
      rw [e] at h1
      exact h1
    · rename_i ss' e
      rw [e] at h1
      have h2 := rseq_oks n r ss' h1.1 hr.tail
      exact ⟨h2.1, bys_app h1.2 h2.2⟩
theorem rone_more (n : Nat) (s : RSt) (ss : List RSt) (b : Int) : rone (n + 1) (s :: ss) b = (match rtake s b with
    | .wrong place => (([], s :: ss, some (.wrong (n : Int) place)) : Told)
    | .ok row s' => ((rseq (rone n) ss row).1, s' :: (rseq (rone n) ss row).2.1, (rseq (rone n) ss row).2.2)) := rfl
/-- the end of a part, and what comes of it through the parts inner to it -/
def rclose (n : Nat) (s : RSt) (ss : List RSt) : Told := match rend s with
  | .wrong place => ([], ss, some (.wrong (n : Int) place))
  | .cut => ([], ss, some (.cut (n : Int)))
  | .ok row => rseq (rone n) ss row
theorem rseq_len (n : Nat) : ∀ (r : Row) (ss : List RSt), (rseq (rone n) ss r).2.1.length = ss.length
  | [], ss => rfl
  | x :: r, ss => by
    have h1 := rone_len n ss x
    rw [rseq_cons]
    split
    · rename_i e
      rw [e] at h1
      exact h1
    · rename_i ss' e
      rw [e] at h1
      exact (rseq_len n r ss').trans h1
theorem rclose_len (n : Nat) (s : RSt) (ss : List RSt) : (rclose n s ss).2.1.length = ss.length := by
  unfold rclose
  split
  · rfl
  · rfl
  · exact rseq_len n _ ss
theorem rclose_oks (n : Nat) {s : RSt} {ss : List RSt} (hs : ROk s) (h : ROks ss) : ROks (rclose n s ss).2.1 ∧ Bys (rclose n s ss).1 := by
  unfold rclose
  split
  · exact ⟨h, bys_nil⟩
  · exact ⟨h, bys_nil⟩
  · rename_i row e
    exact rseq_oks n row ss h (rend_ok hs e)
theorem rendAll_more (n : Nat) (s : RSt) (ss : List RSt) : rendAll (n + 1) (s :: ss) = (match rclose n s ss with
    | (o, _, some x) => (o, some x)
    | (o, ss', none) => (o ++ (rendAll n ss').1, (rendAll n ss').2)) := by
  unfold rclose
  show (match rend s with
    | .wrong place => (([], some (.wrong (n : Int) place)) : Row × Option Fault)
    | .cut => ([], some (.cut (n : Int)))
    | .ok row =>
      match rseq (rone n) ss row with
      | (o, _, some x) => (o, some x)
      | (o, ss', none) => (o ++ (rendAll n ss').1, (rendAll n ss').2)) = _
  cases rend s <;> rfl
end Flow

/-! plain: a stream is one layer's over the stream of the layers ahead; sizes -/
namespace Flow
def wfin (s : WSt) (r : Row) : Row := (wfeed s r).1 ++ wend (wfeed s r).2
theorem wfeed_app : ∀ (s : WSt) (x y : Row), wfeed s (x ++ y) = ((wfeed s x).1 ++ (wfeed (wfeed s x).2 y).1, (wfeed (wfeed s x).2 y).2)
  | s, [], y => rfl
  | s, b :: x, y => by
    show ((wtake s b).1 ++ (wfeed (wtake s b).2 (x ++ y)).1, (wfeed (wtake s b).2 (x ++ y)).2) = _
    rw [wfeed_app (wtake s b).2 x y]
    show (_ ++ (_ ++ _), _) = ((_ ++ _) ++ _, _)
    rw [List.append_assoc]
    rfl
theorem wthru_snoc : ∀ (ss : List WSt) (s : WSt) (r : Row), wthru (ss ++ [s]) r = ((wfeed s (wthru ss r).1).1, (wthru ss r).2 ++ [(wfeed s (wthru ss r).1).2])
  | [], s, r => rfl
  | t :: ss, s, r => by
    show ((wthru (ss ++ [s]) (wfeed t r).1).1, (wfeed t r).2 :: (wthru (ss ++ [s]) (wfeed t r).1).2) = _
    rw [wthru_snoc ss s (wfeed t r).1]
    rfl
theorem wthru_len : ∀ (ss : List WSt) (r : Row), (wthru ss r).2.length = ss.length
  | [], _ => rfl
  | s :: ss, r => congrArg Nat.succ (wthru_len ss (wfeed s r).1)
theorem wfin_app (s : WSt) (x y : Row) : wfin s (x ++ y) = (wfeed s x).1 ++ wfin (wfeed s x).2 y := by
  unfold wfin
  rw [wfeed_app, List.append_assoc]
theorem wendAll_snoc : ∀ (n : Nat) (ss : List WSt) (s : WSt), ss.length = n → wendAll (n + 1) (ss ++ [s]) = wfin s (wendAll n ss)
  | 0, [], s, _ => by
    show wend s ++ [] = [] ++ wend s
    simp
  | n + 1, t :: ss, s, h => by
    have hl : ss.length = n := by simpa using h
    show (wthru (ss ++ [s]) (wend t)).1 ++ wendAll (n + 1) (wthru (ss ++ [s]) (wend t)).2 = wfin s ((wthru ss (wend t)).1 ++ wendAll n (wthru ss (wend t)).2)
    rw [wthru_snoc, wfin_app, wendAll_snoc n (wthru ss (wend t)).2 _ (by rw [wthru_len, hl])]
theorem written_snoc (lays : List Lay) (ly : Lay) (row : Row) : written (lays ++ [ly]) row = wfin (newW ly) (written lays row) := by
  unfold written
  rw [List.map_append, List.length_append]
  show (wthru (lays.map newW ++ [newW ly]) row).1 ++ wendAll (lays.length + 1) (wthru (lays.map newW ++ [newW ly]) row).2 = _
  rw [wthru_snoc, wfin_app, wendAll_snoc lays.length (wthru (lays.map newW) row).2 _ (by rw [wthru_len, List.length_map])]
theorem written_nil (row : Row) : written [] row = row := List.append_nil row
/-! sizes -/
def pot : WSt → Nat
  | .chunks _ held => held.length
  | _ => 0
theorem wtake_len (s : WSt) (b : Int) : (wtake s b).1.length + pot (wtake s b).2 ≤ pot s + 3 := by
  cases s with
  | add key at_ => simp [wtake, takeAdd, pot]
  | front row => simp [wtake, takeFront, pot]
  | esc e =>
    simp only [wtake, escOut, pot]
    split
    · simp
    · split <;> simp
  | runs many byte =>
    simp only [wtake, takeRuns]
    split
    · simp [pot]
    · split <;> simp [pot]
  | chunks size held =>
    simp only [wtake, takeChunks]
    split
    · simp [pot]
    · simp [pot] <;> omega
  | checks size many check =>
    simp only [wtake, takeChecks]
    split <;> simp [pot, checkBytes]
  | signs many value =>
    simp only [wtake, takeSigns]
    split <;> simp [pot]
theorem wfeed_len : ∀ (s : WSt) (r : Row), (wfeed s r).1.length + pot (wfeed s r).2 ≤ pot s + 3 * r.length
  | s, [] => by simp [wfeed]
  | s, b :: r => by
    have h1 := wtake_len s b
    have h2 := wfeed_len (wtake s b).2 r
    show ((wtake s b).1 ++ (wfeed (wtake s b).2 r).1).length + pot (wfeed (wtake s b).2 r).2 ≤ _
    rw [List.length_append, List.length_cons]
    omega
theorem wend_len (s : WSt) : (wend s).length ≤ pot s + 2 := by
  cases s <;> simp only [wend, pot] <;> try simp
  · split <;> simp
  · simp [checkBytes]
  · split <;> simp
theorem pot_ok {s : WSt} (h : WOk s) : pot s ≤ 254 := by
  cases s <;> simp only [pot] <;> try omega
  obtain ⟨h1, h2, h3, h4⟩ := h
  omega
def bnd : Nat → Nat → Nat
  | 0, n => n
  | k + 1, n => bnd k (3 * n + 255)
theorem bnd_mono : ∀ (k : Nat) {a b : Nat}, a ≤ b → bnd k a ≤ bnd k b
  | 0, _, _, h => h
  | k + 1, _, _, h => bnd_mono k (by omega)
theorem bnd_le : ∀ (k n : Nat), n ≤ bnd k n
  | 0, n => Nat.le_refl n
  | k + 1, n => Nat.le_trans (by omega) (bnd_le k (3 * n + 255))
theorem bnd_more : ∀ {k k' : Nat} (n : Nat), k ≤ k' → bnd k n ≤ bnd k' n
  | 0, k', n, _ => bnd_le k' n
  | k + 1, 0, n, h => by omega
  | k + 1, k' + 1, n, h => bnd_more (k := k) (k' := k') (3 * n + 255) (by omega)
theorem wthru_fits : ∀ (ss : List WSt) (r : Row), WOks ss → Bys r → bnd ss.length r.length ≤ 16777216 → WFits ss r ∧ (wthru ss r).1.length ≤ bnd ss.length r.length
  | [], r, _, _, h => ⟨h, Nat.le_refl _⟩
  | s :: ss, r, hk, hb, h => by
    have h1 := wfeed_len s r
    have h2 := pot_ok hk.head
    have ⟨k1, b1⟩ := wfeed_ok hk.head hb
    have hm : bnd ss.length (wfeed s r).1.length ≤ bnd (ss.length + 1) r.length := bnd_mono ss.length (by omega)
    have hh : bnd (ss.length + 1) r.length ≤ 16777216 := h
    have ih := wthru_fits ss (wfeed s r).1 hk.tail b1 (by omega)
    have h0 := bnd_le (ss.length + 1) r.length
    exact ⟨⟨by omega, ih.1⟩, Nat.le_trans ih.2 hm⟩
theorem wend_fits : ∀ (n : Nat) (ss : List WSt), WOks ss → ss.length = n → n ≤ 8 → WEndFits n ss ∧ (wendAll n ss).length ≤ n * 840774
  | 0, _, _, _, _ => ⟨trivial, Nat.zero_le _⟩
  | n + 1, [], _, h, _ => by simp at h
  | n + 1, s :: ss, hk, h, h8 => by
    have hl : ss.length = n := by simpa using h
    have h1 := wend_len s
    have h2 := pot_ok hk.head
    have ⟨k1, b1⟩ := wend_ok hk.head
    have hb : bnd ss.length (wend s).length ≤ 840774 := by
      refine Nat.le_trans (bnd_mono _ (show (wend s).length ≤ 257 by omega)) ?_
      refine Nat.le_trans (bnd_more 257 (show ss.length ≤ 7 by omega)) ?_
      decide
    have ⟨f1, f2⟩ := wthru_fits ss (wend s) hk.tail b1 (by omega)
    have ⟨k2, b2, _⟩ := wthru_ok (ss := ss) (r := wend s) hk.tail b1
    have ih := wend_fits n (wthru ss (wend s)).2 k2 (by rw [wthru_len, hl]) (by omega)
    refine ⟨⟨f1, ih.1⟩, ?_⟩
    show ((wthru ss (wend s)).1 ++ wendAll n (wthru ss (wend s)).2).length ≤ _
    rw [List.length_append]
    have := ih.2
    omega
/-- .. closer -/
def ebd : Nat → Nat
  | 0 => 0
  | n + 1 => bnd n 257 + ebd n
theorem ebd_mono : ∀ {a b : Nat}, a ≤ b → ebd a ≤ ebd b
  | a, 0, h => by
    have e : a = 0 := by omega
    subst e
    exact Nat.le_refl _
  | a, b + 1, h => by
    by_cases e : a = b + 1
    · subst e
      exact Nat.le_refl _
    · exact Nat.le_trans (ebd_mono (a := a) (b := b) (by omega)) (Nat.le_add_left _ _)
theorem wend_short : ∀ (n : Nat) (ss : List WSt), WOks ss → ss.length = n → n ≤ 8 → (wendAll n ss).length ≤ ebd n
  | 0, _, _, _, _ => Nat.le_refl _
  | n + 1, [], _, h, _ => by simp at h
  | n + 1, s :: ss, hk, h, h8 => by
    have hl : ss.length = n := by simpa using h
    have h1 := wend_len s
    have h2 := pot_ok hk.head
    have ⟨k1, b1⟩ := wend_ok hk.head
    have hb : bnd ss.length (wend s).length ≤ bnd n 257 := by
      rw [hl]
      exact bnd_mono n (by omega)
    have hb2 : bnd n 257 ≤ 840774 := by
      refine Nat.le_trans (bnd_more 257 (show n ≤ 7 by omega)) ?_
      decide
    have ⟨f1, f2⟩ := wthru_fits ss (wend s) hk.tail b1 (by omega)
    have ⟨k2, b2, _⟩ := wthru_ok (ss := ss) (r := wend s) hk.tail b1
    have ih := wend_short n (wthru ss (wend s)).2 k2 (by rw [wthru_len, hl]) (by omega)
    show ((wthru ss (wend s)).1 ++ wendAll n (wthru ss (wend s)).2).length ≤ bnd n 257 + ebd n
    rw [List.length_append]
    omega
theorem newW_oks {lays : List Lay} (h : ∀ ly, ly ∈ lays → ly.Ok) : WOks (lays.map newW) := fun s hs => by
  obtain ⟨ly, hly, rfl⟩ := List.mem_map.mp hs
  exact newW_ok (h ly hly)
theorem written_fits {lays : List Lay} {row : Row} (h : ∀ ly, ly ∈ lays → ly.Ok) (h8 : lays.length ≤ 8) (hb : Bys row) (hr : row.length ≤ 400) :
    WFits (lays.map newW) row ∧ WEndFits lays.length (wthru (lays.map newW) row).2 ∧ (written lays row).length ≤ 16777216 := by
  have hk := newW_oks h
  have hbd : bnd (lays.map newW).length row.length ≤ 4000000 := by
    rw [List.length_map]
    refine Nat.le_trans (bnd_mono _ hr) (Nat.le_trans (bnd_more 400 h8) ?_)
    decide
  have ⟨f1, f2⟩ := wthru_fits _ row hk hb (by omega)
  have ⟨k2, b2, _⟩ := wthru_ok (ss := lays.map newW) (r := row) hk hb
  have ⟨g1, g2⟩ := wend_fits lays.length (wthru (lays.map newW) row).2 k2 (by rw [wthru_len, List.length_map]) h8
  refine ⟨f1, g1, ?_⟩
  unfold written
  rw [List.length_append]
  omega
theorem written_short {lays : List Lay} {row : Row} (h : ∀ ly, ly ∈ lays → ly.Ok) (h8 : lays.length ≤ 8) (hb : Bys row) (hr : bnd lays.length row.length ≤ 4000000) : (written lays row).length ≤ bnd lays.length row.length + ebd lays.length := by
  have hk := newW_oks h
  have ⟨f1, f2⟩ := wthru_fits (lays.map newW) row hk hb (by rw [List.length_map]; omega)
  have ⟨k2, b2, _⟩ := wthru_ok (ss := lays.map newW) (r := row) hk hb
  have g2 := wend_short lays.length (wthru (lays.map newW) row).2 k2 (by rw [wthru_len, List.length_map]) h8
  rw [List.length_map] at f2
  unfold written
  rw [List.length_append]
  omega
theorem wendAll_by : ∀ (n : Nat) (ss : List WSt), WOks ss → Bys (wendAll n ss)
  | 0, _, _ => bys_nil
  | n + 1, [], _ => bys_nil
  | n + 1, s :: ss, hk => by
    have ⟨k1, b1⟩ := wend_ok hk.head
    have ⟨k2, b2, _⟩ := wthru_ok (ss := ss) (r := wend s) hk.tail b1
    exact bys_app b2 (wendAll_by n _ k2)
theorem written_by {lays : List Lay} {row : Row} (h : ∀ ly, ly ∈ lays → ly.Ok) (hb : Bys row) : Bys (written lays row) := by
  have ⟨k2, b2, _⟩ := wthru_ok (ss := lays.map newW) (r := row) (newW_oks h) hb
  exact bys_app b2 (wendAll_by _ _ k2)
end Flow

/-! plain: reading layer by layer; what is written is read again -/
namespace Flow
/-- a row through one reader: what is told, the state, the fault's place -/
def rfeed : RSt → Row → Row × RSt × Option Int
  | s, [] => ([], s, none)
  | s, b :: r => match rtake s b with
    | .wrong place => ([], s, some place)
    | .ok o s' => (o ++ (rfeed s' r).1, (rfeed s' r).2)
theorem rfeed_cons (s : RSt) (b : Int) (r : Row) : rfeed s (b :: r) = (match rtake s b with
    | .wrong place => (([], s, some place) : Row × RSt × Option Int)
    | .ok o s' => (o ++ (rfeed s' r).1, (rfeed s' r).2)) := rfl
theorem rfeed_app : ∀ (s : RSt) (x y : Row), rfeed s (x ++ y) = (match rfeed s x with
    | (o, s', some p) => (o, s', some p)
    | (o, s', none) => (o ++ (rfeed s' y).1, (rfeed s' y).2))
  | s, [], y => rfl
  | s, b :: x, y => by
    rw [List.cons_append, rfeed_cons, rfeed_cons]
    cases rtake s b with
    | wrong p => rfl
    | ok o s' =>
      dsimp only
      rw [rfeed_app s' x y]
      generalize rfeed s' x = q
      obtain ⟨o1, s1, f⟩ := q
      cases f with
      | none =>
        dsimp only
        rw [List.append_assoc]
      | some p => rfl
theorem rseq_app (f : List RSt → Int → Told) : ∀ (x : Row) (ss : List RSt) (y : Row), rseq f ss (x ++ y) = (match rseq f ss x with
    | (o, ss', some p) => (o, ss', some p)
    | (o, ss', none) => (o ++ (rseq f ss' y).1, (rseq f ss' y).2))
  | [], ss, y => rfl
  | b :: x, ss, y => by
    rw [List.cons_append, rseq_cons, rseq_cons]
    generalize f ss b = q
    obtain ⟨o, ss', fl⟩ := q
    cases fl with
    | some p => rfl
    | none =>
      dsimp only
      rw [rseq_app f x ss' y]
      generalize rseq f ss' x = q
      obtain ⟨o1, s1, f1⟩ := q
      cases f1 with
      | none =>
        dsimp only
        rw [List.append_assoc]
      | some p => rfl
/-- the outermost part's row first, then what it tells through the others -/
theorem rseq_layer (n : Nat) : ∀ (r : Row) (s : RSt) (ss : List RSt),
    (rseq (rone (n + 1)) (s :: ss) r).1 = (rseq (rone n) ss (rfeed s r).1).1 ∧
    (rseq (rone (n + 1)) (s :: ss) r).2.2 = (match (rseq (rone n) ss (rfeed s r).1).2.2 with
      | some x => some x
      | none => (rfeed s r).2.2.map (Fault.wrong (n : Int))) ∧
    ((rseq (rone n) ss (rfeed s r).1).2.2 = none → (rseq (rone (n + 1)) (s :: ss) r).2.1 = (rfeed s r).2.1 :: (rseq (rone n) ss (rfeed s r).1).2.1)
  | [], s, ss => ⟨rfl, rfl, fun _ => rfl⟩
  | b :: r, s, ss => by
    rw [rseq_cons, rone_more, rfeed_cons]
    cases rtake s b with
    | wrong p => exact ⟨rfl, rfl, fun _ => rfl⟩
    | ok o s' =>
      dsimp only
      rw [rseq_app]
      generalize hq : rseq (rone n) ss o = q
      obtain ⟨o1, ss1, f1⟩ := q
      cases f1 with
      | some x => exact ⟨rfl, rfl, fun h => nomatch h⟩
      | none =>
        dsimp only
        obtain ⟨i1, i2, i3⟩ := rseq_layer n r s' ss1
        refine ⟨by rw [i1], i2, i3⟩
inductive LF where
  | wrong (place : Int)
  | cut
def LF.at_ (n : Int) : LF → Fault
  | .wrong p => .wrong n p
  | .cut => .cut n
/-- a whole stream of one layer: what is told, the fault -/
def rfin (s : RSt) (r : Row) : Row × Option LF := match rfeed s r with
  | (o, _, some p) => (o, some (.wrong p))
  | (o, s', none) => match rend s' with
    | .wrong p => (o, some (.wrong p))
    | .cut => (o, some .cut)
    | .ok row => (o ++ row, none)
def rall (n : Nat) (ss : List RSt) (r : Row) : Row × Option Fault := match rseq (rone n) ss r with
  | (o, _, some x) => (o, some x)
  | (o, ss', none) => (o ++ (rendAll n ss').1, (rendAll n ss').2)
theorem rall_layer (n : Nat) (s : RSt) (ss : List RSt) (r : Row) : rall (n + 1) (s :: ss) r = (match rfin s r with
    | (o, none) => rall n ss o
    | (o, some f) => match rseq (rone n) ss o with
      | (o2, _, some x) => (o2, some x)
      | (o2, _, none) => (o2, some (f.at_ (n : Int)))) := by
  obtain ⟨h1, h2, h3⟩ := rseq_layer n r s ss
  unfold rall rfin
  generalize hF : rfeed s r = F at *
  obtain ⟨o, s', fo⟩ := F
  dsimp only at h1 h2 h3
  generalize hL : rseq (rone (n + 1)) (s :: ss) r = L at *
  obtain ⟨l1, l2, l3⟩ := L
  dsimp only at h1 h2 h3
  subst h1
  cases fo with
  | some p =>
    dsimp only
    generalize hG : rseq (rone n) ss o = G at *
    obtain ⟨g1, g2, g3⟩ := G
    cases g3 with
    | some x =>
      have e : l3 = some x := h2
      subst e
      rfl
    | none =>
      have e : l3 = some (Fault.wrong (n : Int) p) := h2
      subst e
      rfl
  | none =>
    dsimp only
    cases hE : rend s' with
    | wrong p =>
      dsimp only
      generalize hG : rseq (rone n) ss o = G at *
      obtain ⟨g1, g2, g3⟩ := G
      cases g3 with
      | some x =>
        have e : l3 = some x := h2
        subst e
        rfl
      | none =>
        have e : l3 = none := h2
        subst e
        have e2 : l2 = s' :: g2 := h3 rfl
        subst e2
        dsimp only
        rw [rendAll_more]
        unfold rclose
        rw [hE]
        show (g1 ++ [], _) = _
        rw [List.append_nil]
        rfl
    | cut =>
      dsimp only
      generalize hG : rseq (rone n) ss o = G at *
      obtain ⟨g1, g2, g3⟩ := G
      cases g3 with
      | some x =>
        have e : l3 = some x := h2
        subst e
        rfl
      | none =>
        have e : l3 = none := h2
        subst e
        have e2 : l2 = s' :: g2 := h3 rfl
        subst e2
        dsimp only
        rw [rendAll_more]
        unfold rclose
        rw [hE]
        show (g1 ++ [], _) = _
        rw [List.append_nil]
        rfl
    | ok row =>
      dsimp only
      rw [rseq_app]
      generalize hG : rseq (rone n) ss o = G at *
      obtain ⟨g1, g2, g3⟩ := G
      cases g3 with
      | some x =>
        have e : l3 = some x := h2
        subst e
        rfl
      | none =>
        have e : l3 = none := h2
        subst e
        have e2 : l2 = s' :: g2 := h3 rfl
        subst e2
        dsimp only
        rw [rendAll_more]
        unfold rclose
        rw [hE]
        dsimp only
        generalize rseq (rone n) g2 row = R
        obtain ⟨r1, r2, r3⟩ := R
        cases r3 with
        | some x => rfl
        | none =>
          dsimp only
          rw [List.append_assoc]
theorem readAll_rall (lays : List Lay) (r : Row) : readAll lays r = rall lays.length (lays.reverse.map newR) r := by
  unfold readAll rall rrow
  have hl : (lays.reverse.map newR).length = lays.length := by rw [List.length_map, List.length_reverse]
  rw [hl]
  have h2 := rseq_len lays.length r (lays.reverse.map newR)
  rw [hl] at h2
  generalize rseq (rone lays.length) (lays.reverse.map newR) r = G at *
  obtain ⟨g1, g2, g3⟩ := G
  cases g3 with
  | some x => rfl
  | none =>
    have h3 : g2.length = lays.length := h2
    dsimp only
    rw [h3]
theorem readAll_snoc (lays : List Lay) (ly : Lay) (r : Row) : readAll (lays ++ [ly]) r = (match rfin (newR ly) r with
    | (o, none) => readAll lays o
    | (o, some f) => match rseq (rone lays.length) (lays.reverse.map newR) o with
      | (o2, _, some x) => (o2, some x)
      | (o2, _, none) => (o2, some (f.at_ (lays.length : Int)))) := by
  rw [readAll_rall, List.length_append, List.reverse_append]
  show rall (lays.length + 1) (newR ly :: lays.reverse.map newR) r = _
  rw [rall_layer]
  generalize rfin (newR ly) r = F
  obtain ⟨o, f⟩ := F
  cases f with
  | none => exact (readAll_rall lays o).symm
  | some f => rfl
theorem readAll_nil (r : Row) : readAll [] r = (r, none) := by
  rw [readAll_rall]
  show rall 0 [] r = _
  unfold rall
  have h : ∀ r : Row, rseq (rone 0) [] r = (r, [], none) := by
    intro r
    induction r with
    | nil => rfl
    | cons b r ih =>
      rw [rseq_cons]
      show ([b] ++ (rseq (rone 0) [] r).1, (rseq (rone 0) [] r).2) = _
      rw [ih]
      rfl
  rw [h]
  show (r ++ [], none) = _
  rw [List.append_nil]
/-! ### a layer's writer and reader -/
theorem idx_signOf {i : Int} (h0 : 0 ≤ i) (h : i < 64) : (signsT.idxOf (signOf i) : Int) = i := by
  have key : ∀ j, j ∈ List.range 64 → (signsT.idxOf (signOf ((j : Nat) : Int)) : Int) = (j : Int) := by decide +kernel
  have := key i.toNat (List.mem_range.mpr (by omega))
  rw [show ((i.toNat : Nat) : Int) = i by omega] at this
  exact this
theorem sign_mem {i : Int} (h0 : 0 ≤ i) (h : i < 64) : signOf i ∈ signsT := gI_mem h0 h
/-- a reader that has read all that a writer wrote so far; what it has still to tell -/
def RSim : WSt → RSt → Row → Prop
  | .add key at_, .add key' at', p => key' = key ∧ at' = at_ ∧ p = []
  | .front row, .front row', p => row' = row ∧ p = []
  | .esc e, .esc e' _ m, p => e' = e ∧ m = false ∧ p = []
  | .runs many byte, .runs _ m lastN lastB, p => m = 0 ∧ p = List.replicate many.toNat byte ∧ (many = 0 → ¬(0 < lastN ∧ lastN < 255)) ∧ ¬(byte = lastB ∧ 0 < lastN ∧ lastN < 255)
  | .chunks size held, .chunks size' _ left isLast, p => size' = size ∧ left = 0 ∧ isLast = false ∧ p = held
  | .checks size many check, .checks size' _ check' held, p => size' = size ∧ p = held ∧ (held.length : Int) = many ∧ checkAll check' held = check
  | .signs many value, .signs _ m v, p => (many = 0 ∧ m = 0 ∧ v = 0 ∧ p = []) ∨ (many = 2 ∧ m = 6 ∧ 0 ≤ v ∧ v < 64 ∧ p = [v * 4 + value]) ∨ (many = 4 ∧ m = 4 ∧ 0 ≤ v ∧ v < 16 ∧ p = [v * 16 + value])
  | _, _, _ => False
theorem rfeed_one (s : RSt) (b : Int) {o : Row} {s' : RSt} (h : rtake s b = .ok o s') : rfeed s [b] = (o, s', none) := by
  rw [rfeed_cons, h]
  show (o ++ [], s', none) = _
  rw [List.append_nil]
theorem rfeed_two (s : RSt) (a b : Int) {o o2 : Row} {s' s2 : RSt} (h : rtake s a = .ok o s') (h2 : rtake s' b = .ok o2 s2) : rfeed s [a, b] = (o ++ o2, s2, none) := by
  rw [rfeed_cons, h]
  show (o ++ (rfeed s' [b]).1, (rfeed s' [b]).2) = _
  rw [rfeed_one s' b h2]
theorem feed_left (size : Int) : ∀ (r : Row) (done left : Int) (isLast : Bool), left = (r.length : Int) → rfeed (.chunks size done left isLast) r = (r, .chunks size (done + r.length) 0 isLast, none)
  | [], done, left, isLast, h => by
    have h' : left = 0 := by simpa using h
    subst h'
    show ([], RSt.chunks size done 0 isLast, none) = _
    simp
  | b :: r, done, left, isLast, h => by
    rw [List.length_cons] at h
    have h1 : rtake (.chunks size done left isLast) b = .ok [b] (.chunks size (done + 1) (left - 1) isLast) := by
      simp only [rtake]
      rw [if_pos (by omega)]
    rw [rfeed_cons, h1]
    dsimp only
    rw [feed_left size r (done + 1) (left - 1) isLast (by omega), List.length_cons]
    have e : done + 1 + (r.length : Int) = done + ((r.length + 1 : Nat) : Int) := by omega
    rw [e]
    rfl
theorem checkAll_app : ∀ (c : Int) (x y : Row), checkAll c (x ++ y) = checkAll (checkAll c x) y
  | c, [], y => rfl
  | c, b :: x, y => checkAll_app (nextCheck c b) x y
theorem block_of (x : Row) (a b : Int) : blockRow (x ++ [a, b]) = x ∧ blockTail (x ++ [a, b]) = [a, b] := by
  unfold blockRow blockTail
  have h : (x ++ [a, b]).length - 2 = x.length := by simp
  rw [h]
  exact ⟨List.take_left .., List.drop_left ..⟩
theorem feed_held (size check : Int) : ∀ (r : Row) (done : Int) (held : Row), (held.length : Int) + r.length < size + 2 → rfeed (.checks size done check held) r = ([], .checks size (done + r.length) check (held ++ r), none)
  | [], done, held, h => by
    show ([], RSt.checks size done check held, none) = _
    simp
  | b :: r, done, held, h => by
    rw [List.length_cons] at h
    have h1 : rtake (.checks size done check held) b = .ok [] (.checks size (done + 1) check (held ++ [b])) := by
      simp only [rtake]
      rw [if_neg (by simp; omega)]
    rw [rfeed_cons, h1]
    dsimp only
    rw [feed_held size check r (done + 1) (held ++ [b]) (by simp; omega), List.length_cons, List.append_assoc]
    have e : done + 1 + (r.length : Int) = done + ((r.length + 1 : Nat) : Int) := by omega
    rw [e]
    rfl
theorem rep_snoc (m : Int) (b : Int) (h : 0 ≤ m) : List.replicate m.toNat b ++ [b] = List.replicate (m + 1).toNat b := by
  have e : (m + 1).toNat = m.toNat + 1 := by omega
  rw [e, List.replicate_succ']
theorem sim_take {ws : WSt} {rs : RSt} {p : Row} {b : Int} (h : RSim ws rs p) (hw : WOk ws) (hb : By b) : ∃ told rs' p', rfeed rs (wtake ws b).1 = (told, rs', none) ∧ told ++ p' = p ++ [b] ∧ RSim (wtake ws b).2 rs' p' := by
  obtain ⟨b0, b1⟩ := id hb
  cases ws with
  | add key at_ =>
    cases rs <;> simp only [RSim] at h
    rename_i key' at'
    obtain ⟨rfl, rfl, rfl⟩ := h
    refine ⟨[b], _, [], rfeed_one _ _ (o := [b]) (s' := .add key' ((at' + 1) % (key'.length : Int))) ?_, rfl, ⟨rfl, rfl, rfl⟩⟩
    simp only [rtake]
    have e : ((b + gI key' at') % 256 - gI key' at') % 256 = b := by omega
    rw [e]
  | front row =>
    cases rs <;> simp only [RSim] at h
    rename_i row'
    obtain ⟨rfl, rfl⟩ := h
    refine ⟨[b], _, [], rfeed_one _ _ (o := [b]) (s' := .front (moveFront row' (row'.idxOf b))) ?_, rfl, ⟨rfl, rfl⟩⟩
    simp only [rtake]
    have hm := hw.2 b hb
    have hl : row'.idxOf b < row'.length := List.idxOf_lt_length_of_mem hm
    have e : gI row' (row'.idxOf b : Int) = b := by
      unfold gI
      rw [Int.toNat_natCast]
      simp [List.getD, hl, List.getElem_idxOf]
    rw [e, Int.toNat_natCast]
  | esc e =>
    cases rs <;> simp only [RSim] at h
    rename_i e' done m
    obtain ⟨rfl, rfl, rfl⟩ := h
    show ∃ told rs' p', rfeed _ (escOut e' b) = _ ∧ _ ∧ RSim (.esc e') rs' p'
    unfold escOut
    by_cases h1 : b = e' % 256
    · rw [if_pos h1]
      refine ⟨_, _, [], rfeed_two _ _ _ (o := []) (s' := .esc e' (done + 1) true) ?_ (o2 := [b]) (s2 := .esc e' (done + 1 + 1) false) ?_, rfl, ⟨rfl, rfl, rfl⟩⟩
      · simp only [rtake]
        rw [if_neg (by decide), if_neg (by omega), if_pos trivial]
      · simp only [rtake]
        rw [if_pos trivial, if_pos trivial, h1]
    · rw [if_neg h1]
      by_cases h2 : b = (e' + 1) % 256
      · rw [if_pos h2]
        refine ⟨_, _, [], rfeed_two _ _ _ (o := []) (s' := .esc e' (done + 1) true) ?_ (o2 := [b]) (s2 := .esc e' (done + 1 + 1) false) ?_, rfl, ⟨rfl, rfl, rfl⟩⟩
        · simp only [rtake]
          rw [if_neg (by decide), if_neg (by omega), if_pos trivial]
        · simp only [rtake]
          rw [if_pos trivial, if_neg (by omega), if_pos trivial, h2]
      · rw [if_neg h2]
        refine ⟨_, _, [], rfeed_one _ _ (o := [b]) (s' := .esc e' (done + 1) false) ?_, rfl, ⟨rfl, rfl, rfl⟩⟩
        simp only [rtake]
        rw [if_neg (by decide), if_neg h1, if_neg h2]
  | runs many byte =>
    cases rs <;> simp only [RSim] at h
    rename_i done m lastN lastB
    obtain ⟨rfl, rfl, g1, g2⟩ := h
    obtain ⟨k0, k1, k2⟩ := hw
    show ∃ told rs' p', rfeed _ (takeRuns many byte b).1 = _ ∧ _ ∧ RSim (takeRuns many byte b).2 rs' p'
    unfold takeRuns
    by_cases h1 : many > 0 ∧ b ≠ byte
    · rw [if_pos h1]
      refine ⟨_, _, [b], rfeed_two _ _ _ (o := []) (s' := .runs (done + 1) many lastN lastB) ?_ (o2 := List.replicate many.toNat byte) (s2 := .runs (done + 1 + 1) 0 many byte) ?_, rfl, ⟨rfl, rfl, by omega, by omega⟩⟩
      · simp only [rtake]
        rw [if_pos trivial, if_neg (by omega)]
      · simp only [rtake]
        rw [if_neg (by omega), if_neg g2]
    · rw [if_neg h1]
      have hbm : many = 0 ∨ b = byte := by omega
      have hrep : List.replicate many.toNat byte = List.replicate many.toNat b := by
        rcases hbm with z | z
        · rw [z]; rfl
        · rw [z]
      have g3 : ¬(b = lastB ∧ 0 < lastN ∧ lastN < 255) := by
        rcases hbm with z | z
        · intro q
          exact g1 z q.2
        · rw [z]; exact g2
      by_cases h2 : many + 1 = 255
      · rw [if_pos h2]
        refine ⟨_, _, [], rfeed_two _ _ _ (o := []) (s' := .runs (done + 1) 255 lastN lastB) ?_ (o2 := List.replicate (255 : Int).toNat b) (s2 := .runs (done + 1 + 1) 0 255 b) ?_, ?_, ⟨rfl, rfl, by omega, by omega⟩⟩
        · simp only [rtake]
          rw [if_pos trivial, if_neg (by omega)]
        · simp only [rtake]
          rw [if_neg (by omega), if_neg g3]
        · rw [hrep, rep_snoc many b k0, h2]
          simp
      · rw [if_neg h2]
        refine ⟨[], _, _, rfl, rfl, ⟨rfl, ?_, by omega, g3⟩⟩
        rw [hrep]
        exact rep_snoc many b k0
  | chunks size held =>
    cases rs <;> simp only [RSim] at h
    rename_i size' done left isLast
    obtain ⟨rfl, rfl, rfl, rfl⟩ := h
    obtain ⟨k0, k1, k2, k3⟩ := hw
    show ∃ told rs' p', rfeed _ (takeChunks size' p b).1 = _ ∧ _ ∧ RSim (takeChunks size' p b).2 rs' p'
    unfold takeChunks
    by_cases h1 : ((p ++ [b]).length : Int) = size'
    · rw [if_pos h1, h1]
      have ht : rtake (.chunks size' done 0 false) size' = .ok [] (.chunks size' (done + 1) size' (decide (size' < size'))) := by
        simp only [rtake]
        rw [if_neg (by omega), if_neg (by simp)]
      refine ⟨p ++ [b], .chunks size' (done + 1 + (p ++ [b]).length) 0 (decide (size' < size')), [], ?_, by rw [List.append_nil], ⟨rfl, rfl, by simp, rfl⟩⟩
      rw [rfeed_cons, ht]
      dsimp only
      rw [feed_left size' (p ++ [b]) (done + 1) size' _ h1.symm]
      simp
    · rw [if_neg h1]
      exact ⟨[], _, p ++ [b], rfl, rfl, ⟨rfl, rfl, rfl, rfl⟩⟩
  | checks size many check =>
    cases rs <;> simp only [RSim] at h
    rename_i size' done check' held
    obtain ⟨rfl, rfl, hl, hc⟩ := h
    obtain ⟨k0, k1, k2, k3, k4, k5⟩ := hw
    have hn : checkAll check' (p ++ [b]) = nextCheck check b := by
      rw [checkAll_app, hc]
      rfl
    show ∃ told rs' p', rfeed _ (takeChecks size' many check b).1 = _ ∧ _ ∧ RSim (takeChecks size' many check b).2 rs' p'
    unfold takeChecks
    by_cases h1 : many + 1 < size'
    · rw [if_pos h1]
      refine ⟨[], _, p ++ [b], feed_held size' check' [b] done p (by simp; omega), rfl, ⟨rfl, rfl, ?_, hn⟩⟩
      simp
      omega
    · rw [if_neg h1]
      refine ⟨p ++ [b], .checks size' (done + 1 + 1 + 1) (nextCheck check b) [], [], ?_, by rw [List.append_nil], ⟨rfl, rfl, rfl, rfl⟩⟩
      have e1 : rfeed (.checks size' done check' p) [b, nextCheck check b / 256] = ([], .checks size' (done + 1 + 1) check' (p ++ [b] ++ [nextCheck check b / 256]), none) := by
        rw [feed_held size' check' [b, nextCheck check b / 256] done p (by simp; omega)]
        simp
        omega
      have e2 : b :: checkBytes (nextCheck check b) = [b, nextCheck check b / 256] ++ [nextCheck check b % 256] := rfl
      rw [e2, rfeed_app, e1]
      dsimp only
      obtain ⟨q1, q2⟩ := block_of (p ++ [b]) (nextCheck check b / 256) (nextCheck check b % 256)
      have e3 : rtake (.checks size' (done + 1 + 1) check' (p ++ [b] ++ [nextCheck check b / 256])) (nextCheck check b % 256) = .ok (p ++ [b]) (.checks size' (done + 1 + 1 + 1) (nextCheck check b) []) := by
        have e4 : p ++ [b] ++ [nextCheck check b / 256] ++ [nextCheck check b % 256] = p ++ [b] ++ [nextCheck check b / 256, nextCheck check b % 256] := by simp
        simp only [rtake]
        rw [e4, q1, q2, hn, if_pos (by simp; omega)]
        exact if_pos rfl
      rw [rfeed_one _ _ e3]
      rfl
  | signs many value =>
    cases rs <;> simp only [RSim] at h
    rename_i done m v
    obtain ⟨k0, k1, k2⟩ := hw
    show ∃ told rs' p', rfeed _ (takeSigns many value b).1 = _ ∧ _ ∧ RSim (takeSigns many value b).2 rs' p'
    unfold takeSigns
    rcases h with ⟨rfl, rfl, rfl, rfl⟩ | ⟨rfl, rfl, v0, v1, rfl⟩ | ⟨rfl, rfl, v0, v1, rfl⟩
    · rw [pw0] at k2
      have ev : value = 0 := by omega
      subst ev
      rw [if_neg (by decide), show pow2 (0 + 2) = 4 from rfl]
      have hi := idx_signOf (i := (0 * 256 + b) / 4) (by omega) (by omega)
      refine ⟨[], _, [b], rfeed_one _ _ (o := []) (s' := .signs (done + 1) 6 ((0 * 256 + b) / 4)) ?_, rfl, Or.inr (Or.inl ⟨rfl, rfl, by omega, by omega, ?_⟩)⟩
      · simp only [rtake]
        rw [if_pos (sign_mem (by omega) (by omega)), if_pos (by decide), hi]
        simp
      · congr 1
        omega
    · rw [pw2] at k2
      rw [if_neg (by decide), show pow2 (2 + 2) = 16 from rfl]
      have hi := idx_signOf (i := (value * 256 + b) / 16) (by omega) (by omega)
      refine ⟨[v * 4 + value], _, [b], rfeed_one _ _ (o := [v * 4 + value]) (s' := .signs (done + 1) 4 ((v * 64 + (value * 256 + b) / 16) % 16)) ?_, rfl, Or.inr (Or.inr ⟨rfl, rfl, by omega, by omega, ?_⟩)⟩
      · simp only [rtake]
        rw [if_pos (sign_mem (by omega) (by omega)), if_neg (by decide), hi, show pow2 (6 - 2) = 16 from rfl]
        have e : (v * 64 + (value * 256 + b) / 16) / 16 = v * 4 + value := by omega
        rw [e]
        rfl
      · congr 1
        omega
    · rw [pw4] at k2
      rw [if_pos (by decide), show pow2 (4 + 2) = 64 from rfl, show pow2 (4 + 2 - 6) = 1 from rfl]
      have hi := idx_signOf (i := (value * 256 + b) / 64) (by omega) (by omega)
      have hi2 := idx_signOf (i := (value * 256 + b) % 64 / 1) (by omega) (by omega)
      refine ⟨_, _, [], rfeed_two _ _ _ (o := [v * 16 + value]) (s' := .signs (done + 1) 2 ((v * 64 + (value * 256 + b) / 64) % 4)) ?_ (o2 := [b]) (s2 := .signs (done + 1 + 1) 0 0) ?_, rfl, Or.inl ⟨rfl, rfl, rfl, rfl⟩⟩
      · simp only [rtake]
        rw [if_pos (sign_mem (by omega) (by omega)), if_neg (by decide), hi, show pow2 (4 - 2) = 4 from rfl]
        have e : (v * 64 + (value * 256 + b) / 64) / 4 = v * 16 + value := by omega
        rw [e]
        rfl
      · simp only [rtake]
        rw [if_pos (sign_mem (by omega) (by omega)), if_neg (by decide), hi2, show pow2 (2 - 2) = 1 from rfl]
        have e : ((v * 64 + (value * 256 + b) / 64) % 4 * 64 + (value * 256 + b) % 64 / 1) / 1 = b := by omega
        have e2 : ((v * 64 + (value * 256 + b) / 64) % 4 * 64 + (value * 256 + b) % 64 / 1) % 1 = 0 := by omega
        rw [e, e2]
        rfl
theorem sim_end {ws : WSt} {rs : RSt} {p : Row} (h : RSim ws rs p) (hw : WOk ws) : ∃ told rs' t2, rfeed rs (wend ws) = (told, rs', none) ∧ rend rs' = .ok t2 ∧ told ++ t2 = p := by
  cases ws with
  | add key at_ =>
    cases rs <;> simp only [RSim] at h
    obtain ⟨rfl, rfl, rfl⟩ := h
    exact ⟨[], _, [], rfl, rfl, rfl⟩
  | front row =>
    cases rs <;> simp only [RSim] at h
    obtain ⟨rfl, rfl⟩ := h
    exact ⟨[], _, [], rfl, rfl, rfl⟩
  | esc e =>
    cases rs <;> simp only [RSim] at h
    obtain ⟨rfl, rfl, rfl⟩ := h
    exact ⟨[], _, [], rfl, rfl, rfl⟩
  | runs many byte =>
    cases rs <;> simp only [RSim] at h
    rename_i done m lastN lastB
    obtain ⟨rfl, rfl, g1, g2⟩ := h
    obtain ⟨k0, k1, k2⟩ := hw
    show ∃ told rs' t2, rfeed _ (if many = 0 then [] else [many, byte]) = _ ∧ _
    by_cases h0 : many = 0
    · subst h0
      exact ⟨[], _, [], rfl, rfl, rfl⟩
    · rw [if_neg h0]
      refine ⟨_, _, [], rfeed_two _ _ _ (o := []) (s' := .runs (done + 1) many lastN lastB) ?_ (o2 := List.replicate many.toNat byte) (s2 := .runs (done + 1 + 1) 0 many byte) ?_, rfl, by simp⟩
      · simp only [rtake]
        rw [if_pos trivial, if_neg h0]
      · simp only [rtake]
        rw [if_neg h0, if_neg g2]
  | chunks size held =>
    cases rs <;> simp only [RSim] at h
    rename_i size' done left isLast
    obtain ⟨rfl, rfl, rfl, rfl⟩ := h
    obtain ⟨k0, k1, k2, k3⟩ := hw
    have ht : rtake (.chunks size' done 0 false) (p.length : Int) = .ok [] (.chunks size' (done + 1) (p.length : Int) (decide ((p.length : Int) < size'))) := by
      simp only [rtake]
      rw [if_neg (by omega), if_neg (by simp; omega)]
    refine ⟨p, .chunks size' (done + 1 + p.length) 0 (decide ((p.length : Int) < size')), [], ?_, ?_, List.append_nil _⟩
    · show rfeed _ ((p.length : Int) :: p) = _
      rw [rfeed_cons, ht]
      dsimp only
      rw [feed_left size' p (done + 1) _ _ rfl]
      rfl
    · simp only [rend]
      rw [if_neg (by simp; omega)]
  | checks size many check =>
    cases rs <;> simp only [RSim] at h
    rename_i size' done check' held
    obtain ⟨rfl, rfl, hl, hc⟩ := h
    obtain ⟨k0, k1, k2, k3, k4, k5⟩ := hw
    refine ⟨[], _, p, feed_held size' check' (checkBytes check) done p (by simp [checkBytes]; omega), ?_, rfl⟩
    obtain ⟨q1, q2⟩ := block_of p (check / 256) (check % 256)
    simp only [rend]
    show (if (((p ++ [check / 256, check % 256]).length : Int) < 2) then _ else _) = _
    rw [if_neg (by simp; omega)]
    show (if blockTail (p ++ [check / 256, check % 256]) = checkBytes (checkAll check' (blockRow (p ++ [check / 256, check % 256]))) then REnd.ok (blockRow (p ++ [check / 256, check % 256])) else _) = _
    rw [q1, q2, hc]
    exact if_pos rfl
  | signs many value =>
    cases rs <;> simp only [RSim] at h
    rename_i done m v
    obtain ⟨k0, k1, k2⟩ := hw
    show ∃ told rs' t2, rfeed _ (if many = 0 then [] else [signOf (value * pow2 (6 - many))]) = _ ∧ _
    rcases h with ⟨rfl, rfl, rfl, rfl⟩ | ⟨rfl, rfl, v0, v1, rfl⟩ | ⟨rfl, rfl, v0, v1, rfl⟩
    · exact ⟨[], _, [], rfl, rfl, rfl⟩
    · rw [pw2] at k2
      rw [if_neg (by decide), show pow2 (6 - 2) = 16 from rfl]
      have hi := idx_signOf (i := value * 16) (by omega) (by omega)
      refine ⟨[v * 4 + value], _, [], rfeed_one _ _ (o := [v * 4 + value]) (s' := .signs (done + 1) 4 0) ?_, rfl, rfl⟩
      simp only [rtake]
      rw [if_pos (sign_mem (by omega) (by omega)), if_neg (by decide), hi, show pow2 (6 - 2) = 16 from rfl]
      have e : (v * 64 + value * 16) / 16 = v * 4 + value := by omega
      have e2 : (v * 64 + value * 16) % 16 = 0 := by omega
      rw [e, e2]
      rfl
    · rw [pw4] at k2
      rw [if_neg (by decide), show pow2 (6 - 4) = 4 from rfl]
      have hi := idx_signOf (i := value * 4) (by omega) (by omega)
      refine ⟨[v * 16 + value], _, [], rfeed_one _ _ (o := [v * 16 + value]) (s' := .signs (done + 1) 2 0) ?_, rfl, rfl⟩
      simp only [rtake]
      rw [if_pos (sign_mem (by omega) (by omega)), if_neg (by decide), hi, show pow2 (4 - 2) = 4 from rfl]
      have e : (v * 64 + value * 4) / 4 = v * 16 + value := by omega
      have e2 : (v * 64 + value * 4) % 4 = 0 := by omega
      rw [e, e2]
      rfl
theorem sim_feed : ∀ {r : Row} {ws : WSt} {rs : RSt} {p : Row}, RSim ws rs p → WOk ws → Bys r → ∃ told rs' p', rfeed rs (wfeed ws r).1 = (told, rs', none) ∧ told ++ p' = p ++ r ∧ RSim (wfeed ws r).2 rs' p'
  | [], ws, rs, p, h, hw, hb => ⟨[], rs, p, rfl, by simp, h⟩
  | b :: r, ws, rs, p, h, hw, hb => by
    obtain ⟨t1, r1, p1, a1, a2, a3⟩ := sim_take h hw hb.head
    obtain ⟨t2, r2, p2, c1, c2, c3⟩ := sim_feed a3 (wtake_ok hw hb.head).1 hb.tail
    refine ⟨t1 ++ t2, r2, p2, ?_, ?_, c3⟩
    · show rfeed rs ((wtake ws b).1 ++ (wfeed (wtake ws b).2 r).1) = _
      rw [rfeed_app, a1]
      dsimp only
      rw [c1]
    · rw [List.append_assoc, c2, ← List.append_assoc, a2, List.append_assoc]
      rfl
theorem sim_new {ly : Lay} (h : ly.Ok) : RSim (newW ly) (newR ly) [] := by
  cases ly with
  | add key => exact ⟨rfl, rfl, rfl⟩
  | front => exact ⟨rfl, rfl⟩
  | esc b => exact ⟨rfl, rfl, rfl⟩
  | runs => exact ⟨rfl, rfl, by omega, by omega⟩
  | chunks n => exact ⟨rfl, rfl, rfl, rfl⟩
  | checks n => exact ⟨rfl, rfl, rfl, rfl⟩
  | signs => exact Or.inl ⟨rfl, rfl, rfl, rfl⟩
/-- of one layer: what is written is read again -/
theorem layer_again {ly : Lay} (h : ly.Ok) {r : Row} (hb : Bys r) : rfin (newR ly) (wfin (newW ly) r) = (r, none) := by
  obtain ⟨t1, r1, p1, a1, a2, a3⟩ := sim_feed (sim_new h) (newW_ok h) hb
  obtain ⟨t2, r2, p2, c1, c2, c3⟩ := sim_end a3 (wfeed_ok (newW_ok h) hb).1
  unfold rfin wfin
  rw [rfeed_app, a1]
  dsimp only
  rw [c1]
  dsimp only
  rw [c2]
  show (t1 ++ t2 ++ p2, none) = _
  rw [List.append_assoc, c3, a2]
  rfl
theorem snoc_ind {α : Type} {P : List α → Prop} (h0 : P []) (h1 : ∀ l x, P l → P (l ++ [x])) (l : List α) : P l := by
  have key : ∀ (n : Nat) (l : List α), l.length = n → P l := by
    intro n
    induction n with
    | zero =>
      intro l hl
      rw [List.eq_nil_of_length_eq_zero hl]
      exact h0
    | succ n ih =>
      intro l hl
      rcases List.eq_nil_or_concat l with z | ⟨i, x, z⟩
      · rw [z]; exact h0
      · have e : l = i ++ [x] := by rw [z]; simp
        rw [e]
        refine h1 i x (ih i ?_)
        rw [e, List.length_append] at hl
        simpa using hl
  exact key l.length l rfl
/-- what is written is read again -/
theorem again (lays : List Lay) : (∀ ly, ly ∈ lays → ly.Ok) → ∀ row, Bys row → readAll lays (written lays row) = (row, none) := by
  refine snoc_ind (P := fun lays => (∀ ly, ly ∈ lays → ly.Ok) → ∀ row, Bys row → readAll lays (written lays row) = (row, none)) ?_ (fun l x ih h row hb => ?_) lays
  · intro _ row _
    rw [written_nil, readAll_nil]
  · have hx : x.Ok := h x (List.mem_append_right _ (List.mem_singleton.mpr rfl))
    have hl : ∀ ly, ly ∈ l → ly.Ok := fun ly hly => h ly (List.mem_append_left _ hly)
    rw [written_snoc, readAll_snoc, layer_again hx (written_by hl hb)]
    exact ih hl row hb
/-- a beginning of a stream that is read without a fault -/
theorem begin_ok (f : List RSt → Int → Told) {ss : List RSt} {x y : Row} {o : Row} {ss' : List RSt} (h : rseq f ss (x ++ y) = (o, ss', none)) : ∃ o1 ss1 o2, rseq f ss x = (o1, ss1, none) ∧ rseq f ss1 y = (o2, ss', none) ∧ o = o1 ++ o2 := by
  rw [rseq_app] at h
  generalize rseq f ss x = q at h
  obtain ⟨o1, s1, f1⟩ := q
  cases f1 with
  | some p => cases h
  | none =>
    dsimp only at h
    have h1 := congrArg Prod.fst h
    have h2 := congrArg Prod.snd h
    dsimp only at h1 h2
    exact ⟨o1, s1, (rseq f s1 y).1, rfl, by rw [← h2], h1.symm⟩
end Flow

/-! plain: streams in pieces; sizes of written streams -/
namespace Flow
theorem wthru_app : ∀ (ss : List WSt) (x y : Row), wthru ss (x ++ y) = ((wthru ss x).1 ++ (wthru (wthru ss x).2 y).1, (wthru (wthru ss x).2 y).2)
  | [], x, y => rfl
  | s :: ss, x, y => by
    show ((wthru ss (wfeed s (x ++ y)).1).1, (wfeed s (x ++ y)).2 :: (wthru ss (wfeed s (x ++ y)).1).2) = _
    rw [wfeed_app]
    dsimp only
    rw [wthru_app ss]
    rfl
theorem wfits_len : ∀ {ss : List WSt} {r : Row}, WFits ss r → r.length ≤ 16777216
  | [], _, h => h
  | _ :: _, _, h => h.1
theorem wfits_app : ∀ {ss : List WSt} {x y : Row}, WFits ss (x ++ y) → WFits ss x ∧ WFits (wthru ss x).2 y
  | [], x, y, h => by
    have h' : (x ++ y).length ≤ 16777216 := h
    rw [List.length_append] at h'
    exact ⟨show x.length ≤ _ by omega, show y.length ≤ _ by omega⟩
  | s :: ss, x, y, h => by
    obtain ⟨h1, h2⟩ := h
    rw [List.length_append] at h1
    rw [wfeed_app] at h2
    obtain ⟨i1, i2⟩ := wfits_app h2
    exact ⟨⟨by omega, i1⟩, ⟨by omega, i2⟩⟩
theorem stream_short {lays : List Lay} {row : Row} (h : ∀ ly, ly ∈ lays → ly.Ok) (h8 : lays.length ≤ 8) (hb : Bys row) (hr : row.length ≤ 400) : (written lays row).length ≤ 8000000 := by
  have h1 : bnd lays.length row.length ≤ 4000000 := by
    refine Nat.le_trans (bnd_mono _ hr) (Nat.le_trans (bnd_more 400 h8) ?_)
    decide
  have h2 : ebd lays.length ≤ 3000000 := by
    refine Nat.le_trans (ebd_mono h8) ?_
    decide
  have := written_short h h8 hb h1
  omega
theorem written_split (lays : List Lay) (row : Row) : written lays row = (wthru (lays.map newW) row).1 ++ wendAll lays.length (wthru (lays.map newW) row).2 := rfl
/-- reading a stream that is read without a fault -/
theorem readAll_ok {lays : List Lay} {r row : Row} (h : readAll lays r = (row, none)) : ∃ o ss e, rseq (rone lays.length) (lays.reverse.map newR) r = (o, ss, none) ∧ ss.length = lays.length ∧ rendAll lays.length ss = (e, none) ∧ row = o ++ e := by
  rw [readAll_rall] at h
  unfold rall at h
  have hl := rseq_len lays.length r (lays.reverse.map newR)
  rw [List.length_map, List.length_reverse] at hl
  generalize rseq (rone lays.length) (lays.reverse.map newR) r = q at *
  obtain ⟨o, ss, f⟩ := q
  cases f with
  | some x => cases h
  | none =>
    dsimp only at h hl
    have h1 := congrArg Prod.fst h
    have h2 := congrArg Prod.snd h
    dsimp only at h1 h2
    exact ⟨o, ss, (rendAll lays.length ss).1, rfl, hl, by rw [← h2], h1.symm⟩
/-- what is told of a beginning is a beginning -/
theorem again_begin {lays : List Lay} {row x y : Row} (oks : ∀ ly, ly ∈ lays → ly.Ok) (hb : Bys row) (h : written lays row = x ++ y) : ∃ o ss o2 ss2 e, rseq (rone lays.length) (lays.reverse.map newR) x = (o, ss, none) ∧ rseq (rone lays.length) ss y = (o2, ss2, none) ∧ ss2.length = lays.length ∧ rendAll lays.length ss2 = (e, none) ∧ row = o ++ o2 ++ e := by
  obtain ⟨o, ss, e, h1, h2, h3, h4⟩ := readAll_ok (again lays oks row hb)
  rw [h] at h1
  obtain ⟨o1, ss1, o2, g1, g2, g3⟩ := begin_ok _ h1
  exact ⟨o1, ss1, o2, ss, e, g1, g2, h2, h3, by rw [h4, g3]⟩
end Flow

/-! plain, k20: one changed byte under a layer of checks is told -/
namespace Flow
theorem next_inj {c c' b : Int} (h0 : 0 ≤ c) (h1 : c < 65521) (g0 : 0 ≤ c') (g1 : c' < 65521) (h : nextCheck c b = nextCheck c' b) : c = c' := by
  unfold nextCheck at h
  omega
theorem next_inj2 {c x y : Int} (hx : By x) (hy : By y) (h : nextCheck c x = nextCheck c y) : x = y := by
  unfold nextCheck at h
  obtain ⟨x0, x1⟩ := hx
  obtain ⟨y0, y1⟩ := hy
  omega
theorem all_inj : ∀ (r : Row) {c c' : Int}, 0 ≤ c → c < 65521 → 0 ≤ c' → c' < 65521 → checkAll c r = checkAll c' r → c = c'
  | [], c, c', _, _, _, _, h => h
  | b :: r, c, c', h0, h1, g0, g1, h => next_inj h0 h1 g0 g1 (all_inj r (next_in c b).1 (next_in c b).2 (next_in c' b).1 (next_in c' b).2 h)
theorem all_change {a b : Row} {c x y : Int} (hx : By x) (hy : By y) (h : checkAll c (a ++ x :: b) = checkAll c (a ++ y :: b)) : x = y := by
  rw [checkAll_app, checkAll_app] at h
  exact next_inj2 hx hy (all_inj b (next_in _ x).1 (next_in _ x).2 (next_in _ y).1 (next_in _ y).2 h)
theorem bytes_inj {c c' : Int} (h : checkBytes c = checkBytes c') : c = c' := by
  unfold checkBytes at h
  injection h with h1 h2
  injection h2 with h2 h3
  omega
theorem set_mid : ∀ {r : Row} {i : Nat} {x y : Int}, r[i]? = some y → ∃ a b, r = a ++ y :: b ∧ r.set i x = a ++ x :: b
  | [], i, x, y, h => by simp at h
  | z :: r, 0, x, y, h => by
    have e : z = y := Option.some.inj h
    subst e
    exact ⟨[], r, rfl, rfl⟩
  | z :: r, i + 1, x, y, h => by
    obtain ⟨a, b, e1, e2⟩ := set_mid (r := r) (i := i) (x := x) (y := y) h
    exact ⟨z :: a, b, by rw [e1]; rfl, by show z :: r.set i x = _; rw [e2]; rfl⟩
/-- data and its check, with one byte changed -/
theorem spoilt {D : Row} {c x y : Int} {i : Nat} (hc0 : 0 ≤ c) (hc1 : c < 65521) (hD : Bys D) (hx : By x) (hy : (D ++ checkBytes (checkAll c D))[i]? = some y) (ne : x ≠ y) :
    blockTail ((D ++ checkBytes (checkAll c D)).set i x) ≠ checkBytes (checkAll c (blockRow ((D ++ checkBytes (checkAll c D)).set i x))) := by
  have hl : ((D ++ checkBytes (checkAll c D)).set i x).length - 2 = D.length := by
    rw [List.length_set, List.length_append]
    show D.length + 2 - 2 = _
    omega
  unfold blockTail blockRow
  rw [hl]
  by_cases hi : i < D.length
  · rw [List.getElem?_append_left hi] at hy
    rw [List.set_append_left _ _ hi]
    have hs : (D.set i x).length = D.length := List.length_set ..
    rw [← hs, List.drop_left, List.take_left]
    intro h
    have h2 := bytes_inj h
    obtain ⟨a, b, e1, e2⟩ := set_mid (x := x) hy
    rw [e2, e1] at h2
    exact ne (all_change hx (hD y (List.mem_of_getElem? hy)) h2.symm)
  · rw [List.getElem?_append_right (by omega)] at hy
    rw [List.set_append_right _ _ (by omega), List.drop_left, List.take_left]
    intro h
    generalize i - D.length = j at hy h
    have h3 := congrArg (fun l : Row => l[j]?) h
    rw [hy, List.getElem?_set_self (List.getElem?_eq_some_iff.mp hy).1] at h3
    exact ne (Option.some.inj h3)
/-! the writer's blocks -/
theorem wck_short (n : Int) : ∀ (r : Row) (many c : Int), many + r.length < n → wfin (.checks n many c) r = r ++ checkBytes (checkAll c r)
  | [], many, c, _ => rfl
  | b :: r, many, c, h => by
    rw [List.length_cons] at h
    have h1 : wtake (.checks n many c) b = ([b], .checks n (many + 1) (nextCheck c b)) := by
      simp only [wtake, takeChecks]
      rw [if_pos (by omega)]
    have ih := wck_short n r (many + 1) (nextCheck c b) (by omega)
    unfold wfin at ih ⊢
    show ((wtake (.checks n many c) b).1 ++ (wfeed (wtake (.checks n many c) b).2 r).1) ++ wend (wfeed (wtake (.checks n many c) b).2 r).2 = _
    rw [h1]
    dsimp only
    rw [List.append_assoc, ih]
    rfl
theorem wck_block (n : Int) : ∀ (r : Row) (many c : Int), many + r.length = n → 1 ≤ r.length → wfeed (.checks n many c) r = (r ++ checkBytes (checkAll c r), .checks n 0 (checkAll c r))
  | [], many, c, _, h => by simp at h
  | [b], many, c, h, _ => by
    have h1 : wtake (.checks n many c) b = (b :: checkBytes (nextCheck c b), .checks n 0 (nextCheck c b)) := by
      simp only [wtake, takeChecks]
      rw [if_neg (by simp at h; omega)]
    show ((wtake (.checks n many c) b).1 ++ [], (wtake (.checks n many c) b).2) = _
    rw [h1, List.append_nil]
    rfl
  | b :: b2 :: r, many, c, h, _ => by
    rw [List.length_cons] at h
    have h1 : wtake (.checks n many c) b = ([b], .checks n (many + 1) (nextCheck c b)) := by
      simp only [wtake, takeChecks]
      rw [if_pos (by simp at h; omega)]
    have ih := wck_block n (b2 :: r) (many + 1) (nextCheck c b) (by omega) (by simp)
    show ((wtake (.checks n many c) b).1 ++ (wfeed (wtake (.checks n many c) b).2 (b2 :: r)).1, (wfeed (wtake (.checks n many c) b).2 (b2 :: r)).2) = _
    rw [h1]
    dsimp only
    rw [ih]
    rfl
/-! the reader's -/
theorem rck_block (n c done : Int) (Z : Row) (hZ : (Z.length : Int) = n + 2) (hn : 0 ≤ n) : rfeed (.checks n done c []) Z = (if blockTail Z = checkBytes (checkAll c (blockRow Z)) then (blockRow Z, .checks n (done + n + 2) (checkAll c (blockRow Z)) [], none) else ([], .checks n (done + n + 1) c Z.dropLast, some (done + n + 1))) := by
  obtain ⟨Y, z, rfl⟩ : ∃ Y z, Z = Y ++ [z] := by
    rcases List.eq_nil_or_concat Z with h | ⟨Y, z, h⟩
    · rw [h] at hZ; simp at hZ; omega
    · exact ⟨Y, z, by rw [h]; simp⟩
  rw [List.length_append] at hZ
  have hY : (Y.length : Int) = n + 1 := by simp at hZ; omega
  rw [rfeed_app, feed_held n c Y done [] (by simp; omega)]
  dsimp only
  simp only [List.nil_append]
  rw [rfeed_cons, hY]
  have e : rtake (.checks n (done + (n + 1)) c Y) z = (if blockTail (Y ++ [z]) = checkBytes (checkAll c (blockRow (Y ++ [z]))) then .ok (blockRow (Y ++ [z])) (.checks n (done + (n + 1) + 1) (checkAll c (blockRow (Y ++ [z]))) []) else .wrong (done + (n + 1))) := by
    simp only [rtake]
    rw [if_pos (by simp; omega)]
  rw [e, List.dropLast_concat]
  by_cases h : blockTail (Y ++ [z]) = checkBytes (checkAll c (blockRow (Y ++ [z])))
  · rw [if_pos h, if_pos h]
    dsimp only
    show ([] ++ (blockRow (Y ++ [z]) ++ []), _, _) = _
    rw [List.append_nil, List.nil_append]
    rw [show done + (n + 1) + 1 = done + n + 2 by omega]
  · rw [if_neg h, if_neg h]
    dsimp only
    rw [show done + (n + 1) = done + n + 1 by omega]
theorem place_first {i n L : Int} (h0 : 0 ≤ i) (h1 : i < n + 2) (hL : n + 2 ≤ L) (hn : 0 ≤ n) : min (i / (n + 2) * (n + 2) + n + 1) (L - 1) = n + 1 := by
  have e : i / (n + 2) = 0 := Int.ediv_eq_zero_of_lt h0 h1
  rw [e]
  omega
theorem place_next {i n L : Int} (h1 : n + 2 ≤ i) (hn : 0 ≤ n) : min (i / (n + 2) * (n + 2) + n + 1) (L - 1) = (n + 2) + min ((i - (n + 2)) / (n + 2) * (n + 2) + n + 1) (L - (n + 2) - 1) := by
  have e : (i - (n + 2)) / (n + 2) = i / (n + 2) - 1 := by
    have := Int.sub_ediv_of_dvd i (Int.dvd_refl (n + 2))
    rw [this, Int.ediv_self (by omega)]
  rw [e, Int.sub_mul]
  omega
theorem wck_next {m : Nat} {r : Row} {c : Int} (hm : 1 ≤ m) (hr : m ≤ r.length) : wfin (.checks (m : Int) 0 c) r = (r.take m ++ checkBytes (checkAll c (r.take m))) ++ wfin (.checks (m : Int) 0 (checkAll c (r.take m))) (r.drop m) := by
  have ht : (r.take m).length = m := by rw [List.length_take]; omega
  have h := wck_block (m : Int) (r.take m) 0 c (by rw [ht]; omega) (by omega)
  have e : wfin (.checks (m : Int) 0 c) (r.take m ++ r.drop m) = _ := wfin_app _ _ _
  rw [List.take_append_drop] at e
  rw [e, h]
theorem change_layer {m : Nat} (hm : 1 ≤ m) : ∀ (k : Nat) (r : Row) (c done : Int) (i : Nat) (x y : Int), r.length ≤ k → Bys r → 0 ≤ c → c < 65521 → (wfin (.checks (m : Int) 0 c) r)[i]? = some y → x ≠ y → By x →
    ∃ o t, rfin (.checks (m : Int) done c []) ((wfin (.checks (m : Int) 0 c) r).set i x) = (o, some (.wrong (done + min ((i : Int) / ((m : Int) + 2) * ((m : Int) + 2) + m + 1) (((wfin (.checks (m : Int) 0 c) r).length : Int) - 1)))) ∧ r = o ++ t := by
  intro k
  induction k with
  | zero =>
    intro r c done i x y hk hb hc0 hc1 hy ne hx
    have hr : r = [] := List.eq_nil_of_length_eq_zero (by omega)
    subst hr
    have ew : wfin (.checks (m : Int) 0 c) [] = [] ++ checkBytes (checkAll c []) := wck_short (m : Int) [] 0 c (by simp; omega)
    rw [ew] at hy ⊢
    have bad := spoilt hc0 hc1 hb hx hy ne
    have hi : i < 2 := by
      have := (List.getElem?_eq_some_iff.mp hy).1
      simpa [checkBytes] using this
    have hl : (([] ++ checkBytes (checkAll c [])).set i x).length = 2 := by simp [checkBytes]
    refine ⟨[], [], ?_, rfl⟩
    unfold rfin
    rw [feed_held (m : Int) c _ done [] (by rw [hl]; simp; omega)]
    dsimp only
    simp only [rend]
    rw [List.nil_append, if_neg (by rw [hl]; decide), if_neg bad, hl]
    have e2 : (List.length ([] ++ checkBytes (checkAll c [])) : Int) = 2 := rfl
    rw [e2]
    have e3 : (i : Int) / ((m : Int) + 2) = 0 := Int.ediv_eq_zero_of_lt (by omega) (by omega)
    rw [e3]
    have e4 : min (0 * ((m : Int) + 2) + m + 1) (2 - 1) = 1 := by omega
    rw [e4]
    show ([], some (LF.wrong (done + 2 - 1))) = _
    rw [show done + 2 - 1 = done + 1 by omega]
  | succ k ih =>
    intro r c done i x y hk hb hc0 hc1 hy ne hx
    by_cases hr : r.length < m
    · have ew : wfin (.checks (m : Int) 0 c) r = r ++ checkBytes (checkAll c r) := wck_short (m : Int) r 0 c (by omega)
      rw [ew] at hy ⊢
      have bad := spoilt hc0 hc1 hb hx hy ne
      have hl0 : (r ++ checkBytes (checkAll c r)).length = r.length + 2 := by rw [List.length_append]; rfl
      have hi : i < r.length + 2 := by
        have := (List.getElem?_eq_some_iff.mp hy).1
        rwa [hl0] at this
      have hl : ((r ++ checkBytes (checkAll c r)).set i x).length = r.length + 2 := by rw [List.length_set, hl0]
      refine ⟨[], r, ?_, rfl⟩
      unfold rfin
      rw [feed_held (m : Int) c _ done [] (by rw [hl]; simp; omega)]
      dsimp only
      simp only [rend]
      rw [List.nil_append, if_neg (by rw [hl]; omega), if_neg bad, hl, hl0]
      have e3 : (i : Int) / ((m : Int) + 2) = 0 := Int.ediv_eq_zero_of_lt (by omega) (by omega)
      rw [e3]
      have e4 : min (0 * ((m : Int) + 2) + m + 1) (((r.length + 2 : Nat) : Int) - 1) = ((r.length + 2 : Nat) : Int) - 1 := by omega
      rw [e4]
      show ([], some (LF.wrong (done + ((r.length + 2 : Nat) : Int) - 1))) = _
      rw [show done + ((r.length + 2 : Nat) : Int) - 1 = done + (((r.length + 2 : Nat) : Int) - 1) by omega]
    · have ew := wck_next (r := r) (c := c) hm (by omega)
      have ht : (r.take m).length = m := by rw [List.length_take]; omega
      have hbt : Bys (r.take m) := fun z hz => hb z (List.mem_of_mem_take hz)
      have hbd : Bys (r.drop m) := fun z hz => hb z (List.mem_of_mem_drop hz)
      have hlB : (r.take m ++ checkBytes (checkAll c (r.take m))).length = m + 2 := by rw [List.length_append, ht]; rfl
      have ⟨c0, c1⟩ := checkAll_ok c (r.take m) hc0 hc1
      generalize hS : wfin (.checks (m : Int) 0 (checkAll c (r.take m))) (r.drop m) = S at *
      generalize hB : r.take m ++ checkBytes (checkAll c (r.take m)) = B at *
      rw [ew] at hy ⊢
      have hL : (((B ++ S).length : Nat) : Int) = (m : Int) + 2 + (S.length : Int) := by rw [List.length_append, hlB]; omega
      rw [hL]
      by_cases hi : i < m + 2
      · rw [List.getElem?_append_left (by omega)] at hy
        rw [List.set_append_left _ _ (by omega)]
        rw [← hB] at hy
        have bad := spoilt hc0 hc1 hbt hx hy ne
        rw [hB] at bad
        have hl : (((B.set i x).length : Nat) : Int) = (m : Int) + 2 := by rw [List.length_set, hlB]; omega
        refine ⟨[], r, ?_, rfl⟩
        unfold rfin
        rw [rfeed_app, rck_block (m : Int) c done (B.set i x) hl (by omega), if_neg bad]
        dsimp only
        rw [place_first (by omega) (by omega) (by omega) (by omega)]
        rw [show done + (m : Int) + 1 = done + ((m : Int) + 1) by omega]
      · rw [List.getElem?_append_right (by omega), hlB] at hy
        rw [List.set_append_right _ _ (by omega), hlB]
        rw [← hS] at hy
        obtain ⟨o, t, e1, e2⟩ := ih (r.drop m) (checkAll c (r.take m)) (done + m + 2) (i - (m + 2)) x y (by rw [List.length_drop]; omega) hbd c0 c1 hy ne hx
        rw [hS] at e1
        have good : blockTail B = checkBytes (checkAll c (blockRow B)) ∧ blockRow B = r.take m := by
          have h2 := block_of (r.take m) (checkAll c (r.take m) / 256) (checkAll c (r.take m) % 256)
          have h3 : r.take m ++ [checkAll c (r.take m) / 256, checkAll c (r.take m) % 256] = B := hB
          rw [h3] at h2
          exact ⟨by rw [h2.1, h2.2]; rfl, h2.1⟩
        have hl : ((B.length : Nat) : Int) = (m : Int) + 2 := by rw [hlB]; omega
        refine ⟨r.take m ++ o, t, ?_, by rw [List.append_assoc, ← e2, List.take_append_drop]⟩
        have e3 : rfin (.checks (m : Int) done c []) (B ++ S.set (i - (m + 2)) x) = (r.take m ++ (rfin (.checks (m : Int) (done + m + 2) (checkAll c (r.take m)) []) (S.set (i - (m + 2)) x)).1, (rfin (.checks (m : Int) (done + m + 2) (checkAll c (r.take m)) []) (S.set (i - (m + 2)) x)).2) := by
          unfold rfin
          rw [rfeed_app, rck_block (m : Int) c done B hl (by omega), if_pos good.1, good.2]
          dsimp only
          generalize rfeed (RSt.checks (m : Int) (done + m + 2) (checkAll c (r.take m)) []) (S.set (i - (m + 2)) x) = q
          obtain ⟨q1, q2, q3⟩ := q
          cases q3 with
          | some p => rfl
          | none =>
            dsimp only
            cases rend q2 with
            | wrong p => rfl
            | cut => rfl
            | ok row =>
              dsimp only
              rw [List.append_assoc]
        rw [e3, e1]
        dsimp only
        have e5 : (((i - (m + 2) : Nat)) : Int) = (i : Int) - ((m : Int) + 2) := by omega
        rw [e5, place_next (i := (i : Int)) (L := (m : Int) + 2 + (S.length : Int)) (by omega) (by omega)]
        have e6 : (m : Int) + 2 + (S.length : Int) - ((m : Int) + 2) - 1 = (S.length : Int) - 1 := by omega
        rw [e6]
        congr 3
        omega
theorem change_told {lays : List Lay} {m : Nat} {row : Row} {i : Nat} {x y : Int} (hm : 1 ≤ m) (oks : ∀ ly, ly ∈ lays → ly.Ok) (hb : Bys row) (hy : (written (lays ++ [.checks (m : Int)]) row)[i]? = some y) (ne : x ≠ y) (hx : By x) :
    ∃ o t, readAll (lays ++ [.checks (m : Int)]) ((written (lays ++ [.checks (m : Int)]) row).set i x) = (o, some (.wrong (lays.length : Int) (min ((i : Int) / ((m : Int) + 2) * ((m : Int) + 2) + m + 1) (((written (lays ++ [.checks (m : Int)]) row).length : Int) - 1)))) ∧ row = o ++ t := by
  rw [written_snoc] at hy ⊢
  obtain ⟨o, t, e1, e2⟩ := change_layer hm (written lays row).length (written lays row) 0 0 i x y (Nat.le_refl _) (written_by oks hb) (by decide) (by decide) hy ne hx
  obtain ⟨o1, ss1, e, f1, f2, f3, f4⟩ := readAll_ok (again lays oks row hb)
  rw [e2] at f1
  obtain ⟨a1, s1, a2, g1, g2, g3⟩ := begin_ok _ f1
  refine ⟨a1, a2 ++ e, ?_, by rw [f4, g3, List.append_assoc]⟩
  rw [readAll_snoc]
  have e3 : rfin (newR (.checks (m : Int))) ((wfin (newW (.checks (m : Int))) (written lays row)).set i x) = (o, some (.wrong (0 + min ((i : Int) / ((m : Int) + 2) * ((m : Int) + 2) + m + 1) (((wfin (newW (.checks (m : Int))) (written lays row)).length : Int) - 1)))) := e1
  rw [e3]
  dsimp only
  rw [g1]
  dsimp only
  rw [Int.zero_add]
  rfl
end Flow

/-! plain, k11: a stream that is read without a fault is the one that writing its bytes gives -/
namespace Flow
theorem signOf_idx {b : Int} (h : b ∈ signsT) : signOf (signsT.idxOf b : Int) = b := by
  have hl : signsT.idxOf b < signsT.length := List.idxOf_lt_length_of_mem h
  unfold signOf gI
  rw [Int.toNat_natCast]
  simp [List.getD, hl, List.getElem_idxOf]
/-- the part of runs that a writer still holds -/
def preR (lastN lastB : Int) : Row := if 0 < lastN ∧ lastN < 255 then [lastN, lastB] else []
def lenR (m : Int) : Row := if m = 0 then [] else [m]
/-- a writer that was given all that a reader told; what it has still to write of what was read -/
def OSim : WSt → RSt → Row → Prop
  | .add key at_, .add key' at', ow => key' = key ∧ at' = at_ ∧ ow = []
  | .front row, .front row', ow => row' = row ∧ row.Nodup ∧ ow = []
  | .esc e, .esc e' _ m, ow => e' = e ∧ ow = if m = true then [(e + 1) % 256] else []
  | .runs wm wb, .runs _ m lastN lastB, ow => ow = preR lastN lastB ++ lenR m ∧ (0 < lastN ∧ lastN < 255 → wm = lastN ∧ wb = lastB) ∧ (¬(0 < lastN ∧ lastN < 255) → wm = 0)
  | .chunks size held, .chunks size' _ left isLast, ow => size' = size ∧ ((left = 0 ∧ isLast = false ∧ held = [] ∧ ow = []) ∨ (ow = ((held.length : Int) + left) :: held ∧ isLast = decide ((held.length : Int) + left < size) ∧ (held.length : Int) + left ≤ size ∧ 0 ≤ left ∧ (isLast = false → 0 < left)))
  | .checks size many check, .checks size' _ check' held, ow => size' = size ∧ many = 0 ∧ check' = check ∧ ow = held
  | .signs many value, .signs _ m v, ow => (m = 0 ∧ many = 0 ∧ ow = []) ∨ (m = 6 ∧ many = 0 ∧ ow = [signOf v]) ∨ (m = 4 ∧ many = 2 ∧ ow = [signOf (value * 16 + v)]) ∨ (m = 2 ∧ many = 4 ∧ ow = [signOf (value * 4 + v)])
  | _, _, _ => False
theorem wfeed_one (s : WSt) (b : Int) : wfeed s [b] = wtake s b := by
  show ((wtake s b).1 ++ [], (wtake s b).2) = _
  rw [List.append_nil]
theorem wfeed_nl (s : WSt) : wfeed s [] = ([], s) := rfl
theorem wfeed_cs (s : WSt) (b : Int) (r : Row) : wfeed s (b :: r) = ((wtake s b).1 ++ (wfeed (wtake s b).2 r).1, (wfeed (wtake s b).2 r).2) := rfl
theorem idx_nodup : ∀ {r : Row} {k : Nat} (h : k < r.length), r.Nodup → r.idxOf (r[k]) = k
  | [], k, h, _ => absurd h (by simp)
  | x :: r, 0, h, _ => by simp
  | x :: r, k + 1, h, nd => by
    have h1 := List.nodup_cons.mp nd
    have hk : k < r.length := by simpa using h
    have e : (x :: r)[k + 1] = r[k] := rfl
    rw [e, List.idxOf_cons]
    have ne : ¬ x = r[k] := fun z => h1.1 (by rw [z]; exact List.getElem_mem hk)
    have ih := idx_nodup hk h1.2
    have hb : (x == r[k]) = false := by simp [ne]
    rw [hb, ih]
    rfl
theorem nodup_front {r : Row} {k : Nat} (h : k < r.length) (nd : r.Nodup) : (moveFront r k).Nodup := by
  unfold moveFront
  have e : r.getD k 0 = r[k] := by simp [List.getD, h]
  rw [e]
  refine List.nodup_cons.mpr ⟨fun hm => ?_, nd.sublist (List.eraseIdx_sublist ..)⟩
  obtain ⟨j, hj, hne, ej⟩ := List.mem_eraseIdx_iff_getElem.mp hm
  have h1 := idx_nodup h nd
  have h2 := idx_nodup hj nd
  rw [ej] at h2
  omega
theorem runs_more : ∀ (j : Nat) (k b : Int), 1 ≤ k → k + j < 255 → wfeed (.runs k b) (List.replicate j b) = ([], .runs (k + j) b)
  | 0, k, b, _, _ => by
    show ([], WSt.runs k b) = _
    simp
  | j + 1, k, b, h1, h2 => by
    rw [List.replicate_succ, wfeed_cs]
    have e : wtake (.runs k b) b = ([], .runs (k + 1) b) := by
      show takeRuns k b b = _
      unfold takeRuns
      rw [if_neg (by omega), if_neg (by omega)]
    rw [e]
    dsimp only
    rw [runs_more j (k + 1) b (by omega) (by omega)]
    have e2 : k + 1 + (j : Int) = k + ((j + 1 : Nat) : Int) := by omega
    rw [e2]
    rfl
theorem runs_full (k b : Int) (j : Nat) (h1 : 1 ≤ k) (h2 : k + j = 255) (h3 : 1 ≤ j) : wfeed (.runs k b) (List.replicate j b) = ([255, b], .runs 0 b) := by
  obtain ⟨i, rfl⟩ : ∃ i, j = i + 1 := ⟨j - 1, by omega⟩
  rw [List.replicate_succ', wfeed_app, runs_more i k b h1 (by omega)]
  dsimp only
  rw [wfeed_one]
  have e : wtake (.runs (k + i) b) b = ([255, b], .runs 0 b) := by
    show takeRuns (k + i) b b = _
    unfold takeRuns
    rw [if_neg (by omega), if_pos (by omega)]
  rw [e]
  rfl
/-- a run behind whatever stood -/
theorem runs_run {wm wb b m lastN lastB : Int} (hm : 1 ≤ m) (hm2 : m ≤ 255) (h1 : 0 < lastN ∧ lastN < 255 → wm = lastN ∧ wb = lastB) (h2 : ¬(0 < lastN ∧ lastN < 255) → wm = 0) (hb : ¬(b = lastB ∧ 0 < lastN ∧ lastN < 255)) :
    ∃ wm' wb', wfeed (.runs wm wb) (List.replicate m.toNat b) = (preR lastN lastB ++ (if m = 255 then [255, b] else []), .runs wm' wb') ∧ (m < 255 → wm' = m ∧ wb' = b) ∧ (m = 255 → wm' = 0) := by
  obtain ⟨j, hj⟩ : ∃ j : Nat, m.toNat = j + 1 := ⟨m.toNat - 1, by omega⟩
  have hmj : m = (j : Int) + 1 := by omega
  rw [hj, List.replicate_succ, wfeed_cs]
  have first : wtake (.runs wm wb) b = (preR lastN lastB, .runs 1 b) := by
    show takeRuns wm wb b = _
    unfold takeRuns preR
    by_cases c : 0 < lastN ∧ lastN < 255
    · obtain ⟨rfl, rfl⟩ := h1 c
      rw [if_pos (show wm > 0 ∧ b ≠ wb from ⟨c.1, fun z => hb ⟨z, c⟩⟩), if_pos c]
    · rw [h2 c, if_neg (by omega), if_neg (by omega), if_neg c]
      rfl
  rw [first]
  dsimp only
  by_cases c : m = 255
  · by_cases hj0 : j = 0
    · omega
    · rw [runs_full 1 b j (by omega) (by omega) (by omega), if_pos c]
      exact ⟨0, b, rfl, fun z => absurd z (by omega), fun _ => rfl⟩
  · rw [runs_more j 1 b (by omega) (by omega), if_neg c]
    exact ⟨1 + (j : Int), b, rfl, fun _ => ⟨by omega, rfl⟩, fun z => absurd z c⟩
theorem osim_take {ws : WSt} {rs rs' : RSt} {ow row : Row} {b : Int} (h : OSim ws rs ow) (hw : WOk ws) (hr : ROk rs) (hb : By b) (ht : rtake rs b = .ok row rs') : ∃ ow', (wfeed ws row).1 ++ ow' = ow ++ [b] ∧ OSim (wfeed ws row).2 rs' ow' := by
  obtain ⟨b0, b1⟩ := id hb
  cases ws with
  | add key at_ =>
    cases rs <;> simp only [OSim] at h
    rename_i key' at'
    obtain ⟨rfl, rfl, rfl⟩ := h
    injection ht with e1 e2
    subst e1 e2
    refine ⟨[], ?_, ?_⟩
    · rw [wfeed_one]
      show [((b - gI key' at') % 256 + gI key' at') % 256] ++ [] = [b]
      have e : ((b - gI key' at') % 256 + gI key' at') % 256 = b := by omega
      rw [e]
      rfl
    · rw [wfeed_one]
      exact ⟨rfl, rfl, rfl⟩
  | front row0 =>
    cases rs <;> simp only [OSim] at h
    rename_i row'
    obtain ⟨rfl, nd, rfl⟩ := h
    injection ht with e1 e2
    subst e1 e2
    obtain ⟨hl, hbr⟩ := hr
    have hk : b.toNat < row'.length := by omega
    have eg : gI row' b = row'[b.toNat] := by
      unfold gI
      simp [List.getD, hk]
    have ei := idx_nodup hk nd
    rw [wfeed_one, eg]
    show ∃ ow', [(row'.idxOf (row'[b.toNat]) : Int)] ++ ow' = [] ++ [b] ∧ OSim (.front (moveFront row' (row'.idxOf (row'[b.toNat])))) (.front (moveFront row' b.toNat)) ow'
    rw [ei]
    refine ⟨[], ?_, rfl, nodup_front hk nd, rfl⟩
    show [((b.toNat : Nat) : Int)] = [b]
    rw [show ((b.toNat : Nat) : Int) = b by omega]
  | esc e =>
    cases rs <;> simp only [OSim] at h
    rename_i e' done m
    obtain ⟨rfl, rfl⟩ := h
    cases m with
    | true =>
      simp only [rtake] at ht
      rw [if_pos trivial] at ht
      rw [if_pos rfl]
      split at ht
      · rename_i h1
        injection ht with e1 e2
        subst e1 e2
        rw [wfeed_one]
        show ∃ ow', escOut e' (e' % 256) ++ ow' = _ ∧ OSim (.esc e') _ ow'
        unfold escOut
        rw [if_pos rfl]
        exact ⟨[], by rw [h1]; rfl, rfl, rfl⟩
      · split at ht
        · rename_i h0 h1
          injection ht with e1 e2
          subst e1 e2
          rw [wfeed_one]
          show ∃ ow', escOut e' ((e' + 1) % 256) ++ ow' = _ ∧ OSim (.esc e') _ ow'
          unfold escOut
          rw [if_neg (by omega), if_pos rfl]
          exact ⟨[], by rw [h1]; rfl, rfl, rfl⟩
        · cases ht
    | false =>
      simp only [rtake] at ht
      rw [if_neg (by decide)] at ht
      rw [if_neg (by decide)]
      split at ht
      · cases ht
      · split at ht
        · rename_i h0 h1
          injection ht with e1 e2
          subst e1 e2
          exact ⟨[(e' + 1) % 256], by rw [h1]; rfl, rfl, rfl⟩
        · rename_i h0 h1
          injection ht with e1 e2
          subst e1 e2
          rw [wfeed_one]
          show ∃ ow', escOut e' b ++ ow' = _ ∧ OSim (.esc e') _ ow'
          unfold escOut
          rw [if_neg h0, if_neg h1]
          exact ⟨[], rfl, rfl, rfl⟩
  | runs wm wb =>
    cases rs <;> simp only [OSim] at h
    rename_i done m lastN lastB
    obtain ⟨rfl, g1, g2⟩ := h
    obtain ⟨⟨k0, k1⟩, k2, k3⟩ := hr
    simp only [rtake] at ht
    by_cases hm : m = 0
    · rw [if_pos hm] at ht
      split at ht
      · cases ht
      · rename_i hb0
        injection ht with e1 e2
        subst e1 e2
        subst hm
        refine ⟨preR lastN lastB ++ [b], ?_, ?_, g1, g2⟩
        · rw [wfeed_nl]
          show [] ++ (preR lastN lastB ++ [b]) = preR lastN lastB ++ [] ++ [b]
          simp
        · unfold lenR
          rw [if_neg hb0]
    · rw [if_neg hm] at ht
      split at ht
      · cases ht
      · rename_i hbl
        injection ht with e1 e2
        subst e1 e2
        obtain ⟨wm', wb', r1, r2, r3⟩ := runs_run (m := m) (b := b) (by omega) (by omega) g1 g2 hbl
        rw [r1]
        dsimp only
        have hl : lenR m = [m] := if_neg hm
        refine ⟨preR m b, ?_, ?_, ?_, ?_⟩
        · rw [hl]
          unfold preR
          by_cases c : m = 255
          · rw [if_pos c, if_neg (show ¬ (0 < m ∧ m < 255) by omega), c]
            simp
          · rw [if_neg c, if_pos (show 0 < m ∧ m < 255 by omega)]
            simp
        · show preR m b = preR m b ++ []
          rw [List.append_nil]
        · exact fun z => r2 z.2
        · exact fun z => r3 (by omega)
  | chunks size held =>
    cases rs <;> simp only [OSim] at h
    rename_i size' done left isLast
    obtain ⟨rfl, h⟩ := h
    obtain ⟨k0, k1, k2, k3⟩ := hw
    simp only [rtake] at ht
    rcases h with ⟨rfl, rfl, rfl, rfl⟩ | ⟨rfl, hl, h1, h2, h3⟩
    · rw [if_neg (by omega)] at ht
      split at ht
      · cases ht
      · rename_i hc
        have hbs : b ≤ size' := by
          have : ¬ b > size' := fun z => hc (Or.inr z)
          omega
        injection ht with e1 e2
        subst e1 e2
        refine ⟨[b], rfl, rfl, Or.inr ⟨by simp, by simp, by simpa using hbs, b0, fun z => ?_⟩⟩
        have : ¬ b < size' := of_decide_eq_false z
        omega
    · by_cases hlf : left > 0
      · rw [if_pos hlf] at ht
        injection ht with e1 e2
        subst e1 e2
        rw [wfeed_one]
        show ∃ ow', (takeChunks size' held b).1 ++ ow' = _ ∧ OSim (takeChunks size' held b).2 _ ow'
        unfold takeChunks
        have hlen : ((held ++ [b]).length : Int) = held.length + 1 := by simp
        by_cases c : ((held ++ [b]).length : Int) = size'
        · rw [if_pos c]
          have hleft : left = 1 := by omega
          subst hleft
          refine ⟨[], ?_, rfl, Or.inl ⟨by omega, ?_, rfl, rfl⟩⟩
          · rw [List.append_nil, hlen]
            rfl
          · rw [hl]
            exact decide_eq_false (by omega)
        · rw [if_neg c]
          refine ⟨((held.length : Int) + left) :: (held ++ [b]), rfl, rfl, Or.inr ⟨?_, ?_, by rw [hlen]; omega, by omega, fun z => ?_⟩⟩
          · rw [hlen, show (held.length : Int) + 1 + (left - 1) = held.length + left by omega]
          · rw [hlen, show (held.length : Int) + 1 + (left - 1) = held.length + left by omega]
            exact hl
          · have hn : ¬ (held.length : Int) + left < size' := by
              intro y
              rw [hl, decide_eq_true y] at z
              cases z
            omega
      · rw [if_neg hlf] at ht
        have hl0 : left = 0 := by omega
        subst hl0
        have hlt : isLast = true := by
          cases isLast with
          | true => rfl
          | false =>
            have := h3 rfl
            omega
        rw [if_pos (Or.inl hlt)] at ht
        cases ht
  | checks size many check =>
    cases rs <;> simp only [OSim] at h
    rename_i size' done check' held
    obtain ⟨rfl, rfl, rfl, rfl⟩ := h
    obtain ⟨k0, k1, k2, k3, k4, k5⟩ := hw
    obtain ⟨r0, r1, r2, r3, r4, r5⟩ := hr
    simp only [rtake] at ht
    by_cases c : ((ow ++ [b]).length : Int) = size' + 2
    · rw [if_pos c] at ht
      split at ht
      · rename_i heq
        injection ht with e1 e2
        subst e1 e2
        have hrl : ((blockRow (ow ++ [b])).length : Int) = size' := by
          unfold blockRow
          rw [List.length_take]
          omega
        have hwf := wck_block size' (blockRow (ow ++ [b])) 0 check' (by omega) (by omega)
        rw [hwf]
        refine ⟨[], ?_, rfl, rfl, rfl, rfl⟩
        rw [List.append_nil, ← heq]
        unfold blockRow blockTail
        exact List.take_append_drop ..
      · cases ht
    · rw [if_neg c] at ht
      injection ht with e1 e2
      subst e1 e2
      exact ⟨ow ++ [b], rfl, rfl, rfl, rfl, rfl⟩
  | signs many value =>
    cases rs <;> simp only [OSim] at h
    rename_i done m v
    obtain ⟨k0, k1, k2⟩ := hw
    obtain ⟨r0, r1, r2⟩ := hr
    simp only [rtake] at ht
    by_cases hbm : b ∈ signsT
    · rw [if_pos hbm] at ht
      have hix := idx_sign hbm
      have hsg := signOf_idx hbm
      generalize hidx : (signsT.idxOf b : Int) = x at *
      have x0 : 0 ≤ x := by omega
      have x1 : x < 64 := by omega
      rcases h with ⟨rfl, rfl, rfl⟩ | ⟨rfl, rfl, rfl⟩ | ⟨rfl, rfl, rfl⟩ | ⟨rfl, rfl, rfl⟩
      · rw [if_pos (by decide)] at ht
        injection ht with e1 e2
        subst e1 e2
        rw [pw0] at r2
        have hv : v = 0 := by omega
        subst hv
        refine ⟨[b], rfl, Or.inr (Or.inl ⟨rfl, rfl, ?_⟩)⟩
        have e : (0 : Int) * 64 + x = x := by omega
        rw [e, hsg]
      · rw [if_neg (by decide), show pow2 (6 - 2) = 16 from rfl] at ht
        injection ht with e1 e2
        subst e1 e2
        rw [pw6] at r2
        rw [pw0] at k2
        have hv : value = 0 := by omega
        subst hv
        have et : wtake (.signs 0 0) ((v * 64 + x) / 16) = ([signOf v], .signs 2 ((v * 64 + x) / 16 % 4)) := by
          show takeSigns 0 0 ((v * 64 + x) / 16) = _
          unfold takeSigns
          rw [if_neg (by decide), show pow2 (0 + 2) = 4 from rfl]
          have e1 : (0 * 256 + (v * 64 + x) / 16) / 4 = v := by omega
          have e2 : (0 * 256 + (v * 64 + x) / 16) % 4 = (v * 64 + x) / 16 % 4 := by omega
          rw [e1, e2]
          rfl
        rw [wfeed_one, et]
        refine ⟨[b], rfl, Or.inr (Or.inr (Or.inl ⟨rfl, rfl, ?_⟩))⟩
        have e : (v * 64 + x) / 16 % 4 * 16 + (v * 64 + x) % 16 = x := by omega
        rw [e, hsg]
      · rw [if_neg (by decide), show pow2 (4 - 2) = 4 from rfl] at ht
        injection ht with e1 e2
        subst e1 e2
        rw [pw4] at r2
        rw [pw2] at k2
        have et : wtake (.signs 2 value) ((v * 64 + x) / 4) = ([signOf (value * 16 + v)], .signs 4 ((v * 64 + x) / 4 % 16)) := by
          show takeSigns 2 value ((v * 64 + x) / 4) = _
          unfold takeSigns
          rw [if_neg (by decide), show pow2 (2 + 2) = 16 from rfl]
          have e1 : (value * 256 + (v * 64 + x) / 4) / 16 = value * 16 + v := by omega
          have e2 : (value * 256 + (v * 64 + x) / 4) % 16 = (v * 64 + x) / 4 % 16 := by omega
          rw [e1, e2]
          rfl
        rw [wfeed_one, et]
        refine ⟨[b], rfl, Or.inr (Or.inr (Or.inr ⟨rfl, rfl, ?_⟩))⟩
        have e : (v * 64 + x) / 4 % 16 * 4 + (v * 64 + x) % 4 = x := by omega
        rw [e, hsg]
      · rw [if_neg (by decide), show pow2 (2 - 2) = 1 from rfl] at ht
        injection ht with e1 e2
        subst e1 e2
        rw [pw2] at r2
        rw [pw4] at k2
        have et : wtake (.signs 4 value) ((v * 64 + x) / 1) = ([signOf (value * 4 + v), signOf x], .signs 0 0) := by
          show takeSigns 4 value ((v * 64 + x) / 1) = _
          unfold takeSigns
          rw [if_pos (by decide), show pow2 (4 + 2) = 64 from rfl, show pow2 (4 + 2 - 6) = 1 from rfl]
          have e1 : (value * 256 + (v * 64 + x) / 1) / 64 = value * 4 + v := by omega
          have e2 : (value * 256 + (v * 64 + x) / 1) % 64 / 1 = x := by omega
          have e3 : (value * 256 + (v * 64 + x) / 1) % 64 % 1 = 0 := by omega
          rw [e1, e2, e3]
          rfl
        rw [wfeed_one, et]
        refine ⟨[], ?_, Or.inl ⟨rfl, rfl, rfl⟩⟩
        rw [hsg]
        rfl
    · rw [if_neg hbm] at ht
      cases ht
theorem osim_end {ws : WSt} {rs : RSt} {ow row : Row} (h : OSim ws rs ow) (hw : WOk ws) (hr : ROk rs) (ht : rend rs = .ok row) : wfin ws row = ow := by
  cases ws with
  | add key at_ =>
    cases rs <;> simp only [OSim] at h
    obtain ⟨rfl, rfl, rfl⟩ := h
    injection ht with e1
    subst e1
    rfl
  | front row0 =>
    cases rs <;> simp only [OSim] at h
    obtain ⟨rfl, nd, rfl⟩ := h
    injection ht with e1
    subst e1
    rfl
  | esc e =>
    cases rs <;> simp only [OSim] at h
    rename_i e' done m
    obtain ⟨rfl, rfl⟩ := h
    cases m with
    | true => cases ht
    | false =>
      injection ht with e1
      subst e1
      rfl
  | runs wm wb =>
    cases rs <;> simp only [OSim] at h
    rename_i done m lastN lastB
    obtain ⟨rfl, g1, g2⟩ := h
    obtain ⟨⟨k0, k1⟩, k2, k3⟩ := hr
    simp only [rend] at ht
    split at ht
    · cases ht
    · injection ht with e1
      subst e1
      have hm : m = 0 := by omega
      subst hm
      show [] ++ (if wm = 0 then [] else [wm, wb]) = preR lastN lastB ++ []
      rw [List.append_nil, List.nil_append]
      unfold preR
      by_cases c : 0 < lastN ∧ lastN < 255
      · obtain ⟨rfl, rfl⟩ := g1 c
        rw [if_neg (by omega), if_pos c]
      · rw [g2 c, if_pos rfl, if_neg c]
  | chunks size held =>
    cases rs <;> simp only [OSim] at h
    rename_i size' done left isLast
    obtain ⟨rfl, h⟩ := h
    simp only [rend] at ht
    split at ht
    · cases ht
    · rename_i hc
      injection ht with e1
      subst e1
      have hl : ¬ left > 0 := fun z => hc (Or.inl z)
      have ht2 : isLast = true := by
        cases isLast with
        | true => rfl
        | false => exact absurd (Or.inr (by decide)) hc
      rcases h with ⟨rfl, h2, _⟩ | ⟨rfl, h2, h3, h4, h5⟩
      · rw [ht2] at h2
        cases h2
      · show [] ++ ((held.length : Int) :: held) = _
        have : left = 0 := by omega
        rw [this, Int.add_zero]
        rfl
  | checks size many check =>
    cases rs <;> simp only [OSim] at h
    rename_i size' done check' held
    obtain ⟨rfl, rfl, rfl, rfl⟩ := h
    obtain ⟨r0, r1, r2, r3, r4, r5⟩ := hr
    simp only [rend] at ht
    split at ht
    · cases ht
    · rename_i hlen
      split at ht
      · rename_i heq
        injection ht with e1
        subst e1
        have hrl : ((blockRow ow).length : Int) = (ow.length : Int) - 2 := by
          unfold blockRow
          rw [List.length_take]
          omega
        rw [wck_short size' (blockRow ow) 0 check' (by omega), ← heq]
        unfold blockRow blockTail
        exact List.take_append_drop ..
      · cases ht
  | signs many value =>
    cases rs <;> simp only [OSim] at h
    rename_i done m v
    obtain ⟨k0, k1, k2⟩ := hw
    obtain ⟨r0, r1, r2⟩ := hr
    simp only [rend] at ht
    split at ht
    · cases ht
    · split at ht
      · cases ht
      · rename_i hm hv
        injection ht with e1
        subst e1
        have hv0 : v = 0 := by omega
        subst hv0
        rcases h with ⟨rfl, rfl, rfl⟩ | ⟨rfl, rfl, rfl⟩ | ⟨rfl, rfl, rfl⟩ | ⟨rfl, rfl, rfl⟩
        · rfl
        · exact absurd rfl hm
        · show [] ++ (if (2 : Int) = 0 then [] else [signOf (value * pow2 (6 - 2))]) = _
          rw [if_neg (by decide), show pow2 (6 - 2) = 16 from rfl]
          show [signOf (value * 16)] = [signOf (value * 16 + 0)]
          rw [Int.add_zero]
        · show [] ++ (if (4 : Int) = 0 then [] else [signOf (value * pow2 (6 - 4))]) = _
          rw [if_neg (by decide), show pow2 (6 - 4) = 4 from rfl]
          show [signOf (value * 4)] = [signOf (value * 4 + 0)]
          rw [Int.add_zero]
theorem osim_feed : ∀ {r : Row} {ws : WSt} {rs rs' : RSt} {ow o : Row}, OSim ws rs ow → WOk ws → ROk rs → Bys r → rfeed rs r = (o, rs', none) → ∃ ow', (wfeed ws o).1 ++ ow' = ow ++ r ∧ OSim (wfeed ws o).2 rs' ow' ∧ ROk rs' ∧ Bys o
  | [], ws, rs, rs', ow, o, h, hw, hr, hb, hf => by
    have h1 : (([], rs, none) : Row × RSt × Option Int) = (o, rs', none) := hf
    injection h1 with e1 e2
    injection e2 with e2 _
    subst e1 e2
    exact ⟨ow, by simp [wfeed_nl], h, hr, bys_nil⟩
  | b :: r, ws, rs, rs', ow, o, h, hw, hr, hb, hf => by
    rw [rfeed_cons] at hf
    cases ht : rtake rs b with
    | wrong p =>
      rw [ht] at hf
      injection hf with _ e
      injection e with _ e
      cases e
    | ok row s1 =>
      rw [ht] at hf
      dsimp only at hf
      obtain ⟨ow1, a1, a2⟩ := osim_take h hw hr hb.head ht
      obtain ⟨k1, k2⟩ := rtake_ok hr hb.head ht
      generalize hq : rfeed s1 r = qq at hf
      obtain ⟨o2, s2, f2⟩ := qq
      injection hf with e1 e2
      injection e2 with e2 e3
      subst e1 e2 e3
      obtain ⟨ow2, c1, c2, c3, c4⟩ := osim_feed a2 (wfeed_ok hw k2).1 k1 hb.tail hq
      refine ⟨ow2, ?_, ?_, c3, bys_app k2 c4⟩
      · rw [wfeed_app]
        dsimp only
        rw [List.append_assoc, c1, ← List.append_assoc, a1, List.append_assoc]
        rfl
      · rw [wfeed_app]
        exact c2
theorem range_nodup : ((List.range 256).map Int.ofNat).Nodup := by decide +kernel
theorem osim_new {ly : Lay} (h : ly.Ok) : OSim (newW ly) (newR ly) [] := by
  cases ly with
  | add key => exact ⟨rfl, rfl, rfl⟩
  | front =>
    refine ⟨rfl, ?_, rfl⟩
    show range256.Nodup
    unfold range256
    exact range_nodup
  | esc b => exact ⟨rfl, rfl⟩
  | runs => exact ⟨rfl, fun z => absurd z.1 (by decide), fun _ => rfl⟩
  | chunks n => exact ⟨rfl, Or.inl ⟨rfl, rfl, rfl, rfl⟩⟩
  | checks n => exact ⟨rfl, rfl, rfl, rfl⟩
  | signs => exact Or.inl ⟨rfl, rfl, rfl⟩
theorem layer_form {ly : Lay} (h : ly.Ok) {r o : Row} (hb : Bys r) (hf : rfin (newR ly) r = (o, none)) : wfin (newW ly) o = r ∧ Bys o := by
  unfold rfin at hf
  generalize hq : rfeed (newR ly) r = qq at hf
  obtain ⟨o1, s1, f1⟩ := qq
  cases f1 with
  | some p => cases hf
  | none =>
    dsimp only at hf
    obtain ⟨ow, a1, a2, a3, a4⟩ := osim_feed (osim_new h) (newW_ok h) (newR_ok h) hb hq
    cases he : rend s1 with
    | wrong p => rw [he] at hf; cases hf
    | cut => rw [he] at hf; cases hf
    | ok row =>
      rw [he] at hf
      injection hf with e1 _
      subst e1
      have h2 := osim_end a2 (wfeed_ok (newW_ok h) a4).1 a3 he
      rw [wfin_app, h2, a1]
      exact ⟨rfl, bys_app a4 (rend_ok a3 he)⟩
/-! sizes of what is read -/
def wt : Lay → Nat
  | .runs => 255
  | _ => 1
def wts : List Lay → Nat
  | [] => 1
  | ly :: r => wt ly * wts r
theorem wts_snoc : ∀ (l : List Lay) (x : Lay), wts (l ++ [x]) = wts l * wt x
  | [], x => by simp [wts]
  | y :: l, x => by
    show wt y * wts (l ++ [x]) = wt y * wts l * wt x
    rw [wts_snoc l x, Nat.mul_assoc]
theorem wt_pos (x : Lay) : 1 ≤ wt x := by cases x <;> simp [wt]
def rwt : RSt → Nat
  | .runs _ _ _ _ => 255
  | _ => 1
def rpot : RSt → Nat
  | .checks _ _ _ held => held.length
  | _ => 0
theorem rtake_len {s s' : RSt} {b : Int} {row : Row} (hs : ROk s) (h : rtake s b = .ok row s') : row.length + rpot s' ≤ rpot s + rwt s ∧ rwt s' = rwt s := by
  cases s with
  | add key at_ => injection h with e1 e2; subst e1 e2; exact ⟨by simp [rpot, rwt], rfl⟩
  | front r => injection h with e1 e2; subst e1 e2; exact ⟨by simp [rpot, rwt], rfl⟩
  | esc e done m =>
    simp only [rtake] at h
    split at h
    · split at h
      · injection h with e1 e2; subst e1 e2; exact ⟨by simp [rpot, rwt], rfl⟩
      · split at h
        · injection h with e1 e2; subst e1 e2; exact ⟨by simp [rpot, rwt], rfl⟩
        · cases h
    · split at h
      · cases h
      · split at h
        · injection h with e1 e2; subst e1 e2; exact ⟨by simp [rpot, rwt], rfl⟩
        · injection h with e1 e2; subst e1 e2; exact ⟨by simp [rpot, rwt], rfl⟩
  | runs done many lastN lastB =>
    obtain ⟨⟨k0, k1⟩, k2, k3⟩ := hs
    simp only [rtake] at h
    split at h
    · split at h
      · cases h
      · injection h with e1 e2; subst e1 e2; exact ⟨by simp [rpot, rwt], rfl⟩
    · split at h
      · cases h
      · injection h with e1 e2; subst e1 e2; exact ⟨by simp [rpot, rwt]; omega, rfl⟩
  | chunks size done left isLast =>
    simp only [rtake] at h
    split at h
    · injection h with e1 e2; subst e1 e2; exact ⟨by simp [rpot, rwt], rfl⟩
    · split at h
      · cases h
      · injection h with e1 e2; subst e1 e2; exact ⟨by simp [rpot, rwt], rfl⟩
  | checks size done check held =>
    simp only [rtake] at h
    split at h
    · split at h
      · injection h with e1 e2
        subst e1 e2
        refine ⟨?_, rfl⟩
        show (blockRow (held ++ [b])).length + 0 ≤ held.length + 1
        unfold blockRow
        rw [List.length_take, List.length_append]
        simp
        omega
      · cases h
    · injection h with e1 e2; subst e1 e2; exact ⟨by simp [rpot, rwt], rfl⟩
  | signs done many value =>
    simp only [rtake] at h
    split at h
    · split at h
      · injection h with e1 e2; subst e1 e2; exact ⟨by simp [rpot, rwt], rfl⟩
      · injection h with e1 e2; subst e1 e2; exact ⟨by simp [rpot, rwt], rfl⟩
    · cases h
theorem rend_len {s : RSt} {row : Row} (h : rend s = .ok row) : row.length ≤ rpot s := by
  cases s <;> simp only [rend] at h
  · injection h with e; subst e; simp
  · injection h with e; subst e; simp
  · split at h
    · cases h
    · injection h with e; subst e; simp
  · split at h
    · cases h
    · injection h with e; subst e; simp
  · split at h
    · cases h
    · injection h with e; subst e; simp
  · split at h
    · cases h
    · split at h
      · injection h with e
        subst e
        unfold blockRow
        rw [List.length_take]
        show _ ≤ List.length _
        omega
      · cases h
  · split at h
    · cases h
    · split at h
      · cases h
      · injection h with e; subst e; simp
theorem rfeed_len : ∀ (r : Row) (s : RSt), ROk s → Bys r → (rfeed s r).1.length + rpot (rfeed s r).2.1 ≤ rpot s + rwt s * r.length ∧ ROk (rfeed s r).2.1 ∧ Bys (rfeed s r).1
  | [], s, hs, _ => ⟨by simp [rfeed], hs, bys_nil⟩
  | b :: r, s, hs, hb => by
    rw [rfeed_cons]
    cases ht : rtake s b with
    | wrong p => exact ⟨by simp, hs, bys_nil⟩
    | ok o s' =>
      obtain ⟨h1, h2⟩ := rtake_len hs ht
      obtain ⟨k1, k2⟩ := rtake_ok hs hb.head ht
      obtain ⟨i1, i2, i3⟩ := rfeed_len r s' k1 hb.tail
      refine ⟨?_, i2, bys_app k2 i3⟩
      rw [h2] at i1
      dsimp only
      rw [List.length_append, List.length_cons, Nat.mul_add, Nat.mul_one]
      omega
theorem rfin_len {s : RSt} {r : Row} (hs : ROk s) (hb : Bys r) : (rfin s r).1.length ≤ rpot s + rwt s * r.length ∧ Bys (rfin s r).1 := by
  obtain ⟨h1, h2, h3⟩ := rfeed_len r s hs hb
  unfold rfin
  generalize rfeed s r = q at *
  obtain ⟨o, s', f⟩ := q
  dsimp only at h1 h2 h3
  cases f with
  | some p => exact ⟨by dsimp only; omega, h3⟩
  | none =>
    dsimp only
    cases he : rend s' with
    | wrong p => exact ⟨by dsimp only; omega, h3⟩
    | cut => exact ⟨by dsimp only; omega, h3⟩
    | ok row =>
      have h4 := rend_len he
      exact ⟨by dsimp only; rw [List.length_append]; omega, bys_app h3 (rend_ok h2 he)⟩
theorem new_pot (ly : Lay) : rpot (newR ly) = 0 ∧ rwt (newR ly) = wt ly := by cases ly <;> exact ⟨rfl, rfl⟩
/-- a row through fresh readers -/
theorem rseq_size (lays : List Lay) : (∀ ly, ly ∈ lays → ly.Ok) → ∀ r, Bys r → (rseq (rone lays.length) (lays.reverse.map newR) r).1.length ≤ wts lays * r.length ∧ Bys (rseq (rone lays.length) (lays.reverse.map newR) r).1 := by
  refine snoc_ind (P := fun lays => (∀ ly, ly ∈ lays → ly.Ok) → ∀ r, Bys r → (rseq (rone lays.length) (lays.reverse.map newR) r).1.length ≤ wts lays * r.length ∧ Bys (rseq (rone lays.length) (lays.reverse.map newR) r).1) ?_ (fun l x ih h r hb => ?_) lays
  · intro _ r hb
    have h : ∀ r : Row, rseq (rone 0) [] r = (r, [], none) := by
      intro r
      induction r with
      | nil => rfl
      | cons b r ih =>
        rw [rseq_cons]
        show ([b] ++ (rseq (rone 0) [] r).1, (rseq (rone 0) [] r).2) = _
        rw [ih]
        rfl
    show (rseq (rone 0) [] r).1.length ≤ 1 * r.length ∧ Bys (rseq (rone 0) [] r).1
    rw [h]
    exact ⟨by simp, hb⟩
  · have hx : x.Ok := h x (List.mem_append_right _ (List.mem_singleton.mpr rfl))
    have hl : ∀ ly, ly ∈ l → ly.Ok := fun ly hly => h ly (List.mem_append_left _ hly)
    have e1 : (l ++ [x]).length = l.length + 1 := by simp
    have e2 : ((l ++ [x]).reverse.map newR) = newR x :: l.reverse.map newR := by rw [List.reverse_append]; rfl
    rw [e1, e2, (rseq_layer l.length r (newR x) (l.reverse.map newR)).1, wts_snoc]
    obtain ⟨h1, h2, h3⟩ := rfeed_len r (newR x) (newR_ok hx) hb
    obtain ⟨i1, i2⟩ := ih hl _ h3
    refine ⟨Nat.le_trans i1 ?_, i2⟩
    rw [(new_pot x).1, (new_pot x).2] at h1
    rw [Nat.mul_assoc]
    exact Nat.mul_le_mul_left _ (by omega)
theorem readAll_size (lays : List Lay) : (∀ ly, ly ∈ lays → ly.Ok) → ∀ r, Bys r → (readAll lays r).1.length ≤ wts lays * r.length ∧ Bys (readAll lays r).1 := by
  refine snoc_ind (P := fun lays => (∀ ly, ly ∈ lays → ly.Ok) → ∀ r, Bys r → (readAll lays r).1.length ≤ wts lays * r.length ∧ Bys (readAll lays r).1) ?_ (fun l x ih h r hb => ?_) lays
  · intro _ r hb
    rw [readAll_nil]
    exact ⟨by simp [wts], hb⟩
  · have hx : x.Ok := h x (List.mem_append_right _ (List.mem_singleton.mpr rfl))
    have hl : ∀ ly, ly ∈ l → ly.Ok := fun ly hly => h ly (List.mem_append_left _ hly)
    obtain ⟨h1, h2⟩ := rfin_len (newR_ok hx) hb
    rw [(new_pot x).1, (new_pot x).2] at h1
    rw [readAll_snoc, wts_snoc]
    generalize rfin (newR x) r = F at *
    obtain ⟨o, f⟩ := F
    have hm : wts l * o.length ≤ wts l * wt x * r.length := by
      rw [Nat.mul_assoc]
      exact Nat.mul_le_mul_left _ (by dsimp only at h1; omega)
    cases f with
    | none =>
      obtain ⟨i1, i2⟩ := ih hl o h2
      exact ⟨Nat.le_trans i1 hm, i2⟩
    | some f =>
      dsimp only
      obtain ⟨i1, i2⟩ := rseq_size l hl o h2
      generalize rseq (rone l.length) (l.reverse.map newR) o = G at *
      obtain ⟨g1, g2, g3⟩ := G
      cases g3 with
      | some x => exact ⟨Nat.le_trans i1 hm, i2⟩
      | none => exact ⟨Nat.le_trans i1 hm, i2⟩
/-- one form; and the sizes of the streams between -/
theorem one_form (lays : List Lay) : (∀ ly, ly ∈ lays → ly.Ok) → ∀ r row, Bys r → readAll lays r = (row, none) → written lays row = r ∧ ∀ k, (written (lays.take k) row).length ≤ wts lays * r.length := by
  refine snoc_ind (P := fun lays => (∀ ly, ly ∈ lays → ly.Ok) → ∀ r row, Bys r → readAll lays r = (row, none) → written lays row = r ∧ ∀ k, (written (lays.take k) row).length ≤ wts lays * r.length) ?_ (fun l x ih h r row hb hr => ?_) lays
  · intro _ r row hb h
    rw [readAll_nil] at h
    injection h with h _
    subst h
    refine ⟨written_nil r, fun k => ?_⟩
    rw [List.take_nil, written_nil]
    simp [wts]
  · have hx : x.Ok := h x (List.mem_append_right _ (List.mem_singleton.mpr rfl))
    have hl : ∀ ly, ly ∈ l → ly.Ok := fun ly hly => h ly (List.mem_append_left _ hly)
    have hsz := rfin_len (newR_ok hx) hb
    rw [readAll_snoc] at hr
    generalize hF : rfin (newR x) r = F at hr hsz
    obtain ⟨o, f⟩ := F
    cases f with
    | some f =>
      dsimp only at hr
      generalize rseq (rone l.length) (l.reverse.map newR) o = G at hr
      obtain ⟨g1, g2, g3⟩ := G
      cases g3 with
      | some x => cases hr
      | none => cases hr
    | none =>
      dsimp only at hr hsz
      obtain ⟨f1, f2⟩ := layer_form hx hb hF
      obtain ⟨i1, i2⟩ := ih hl o row f2 hr
      have hw : written (l ++ [x]) row = r := by rw [written_snoc, i1, f1]
      refine ⟨hw, fun k => ?_⟩
      rw [wts_snoc]
      have hm : wts l * o.length ≤ wts l * wt x * r.length := by
        rw [Nat.mul_assoc]
        refine Nat.mul_le_mul_left _ ?_
        have := hsz.1
        rw [(new_pot x).1, (new_pot x).2] at this
        omega
      by_cases hk : k ≤ l.length
      · rw [List.take_append_of_le_length hk]
        exact Nat.le_trans (i2 k) hm
      · rw [List.take_of_length_le (by rw [List.length_append, List.length_singleton]; omega), hw]
        have hp : 1 ≤ wts l * wt x := by
          rw [← wts_snoc]
          have key : ∀ l : List Lay, 1 ≤ wts l := by
            intro l
            induction l with
            | nil => exact Nat.le_refl _
            | cons y l ih => exact Nat.mul_le_mul (wt_pos y) ih
          exact key _
        exact Nat.le_mul_of_pos_left _ hp
theorem wfits_of : ∀ (ss : List WSt) (r : Row), (∀ k, (wthru (ss.take k) r).1.length ≤ 16777216) → WFits ss r
  | [], r, h => h 0
  | s :: ss, r, h => ⟨h 0, wfits_of ss _ fun k => h (k + 1)⟩
/-- what was read may be written again -/
theorem form_fits {lays : List Lay} {r row : Row} (oks : ∀ ly, ly ∈ lays → ly.Ok) (h8 : lays.length ≤ 8) (hb : Bys r) (hr : readAll lays r = (row, none)) (hz : wts lays * r.length ≤ 16777216) :
    Bys row ∧ row.length ≤ 16777216 ∧ WFits (lays.map newW) row ∧ WEndFits lays.length (wthru (lays.map newW) row).2 ∧ written lays row = r := by
  obtain ⟨h1, h2⟩ := one_form lays oks r row hb hr
  have h3 := readAll_size lays oks r hb
  rw [hr] at h3
  have hk := newW_oks oks
  have ⟨k2, _, _⟩ := wthru_ok (ss := lays.map newW) (r := row) hk h3.2
  refine ⟨h3.2, Nat.le_trans h3.1 hz, wfits_of _ _ fun k => ?_, (wend_fits lays.length _ k2 (by rw [wthru_len, List.length_map]) h8).1, h1⟩
  have := h2 k
  rw [written_split, List.length_append] at this
  rw [← List.map_take]
  omega
end Flow

/-! plain, k14: what a spoilt stream tells has a size that a list may have -/
namespace Flow
/-! lengths of one layer's stream -/
theorem wfin_len3 (ly : Lay) (r : Row) : (wfin (newW ly) r).length ≤ 3 * r.length + 2 := by
  have h1 := wfeed_len (newW ly) r
  have h2 := wend_len (wfeed (newW ly) r).2
  have h3 : pot (newW ly) = 0 := by cases ly <;> rfl
  unfold wfin
  rw [List.length_append]
  omega
def rsl (many : Int) : Nat := if many = 0 then 0 else 2
theorem runs_len2 : ∀ (r : Row) (many byte : Int), 0 ≤ many → (wfin (.runs many byte) r).length ≤ rsl many + 2 * r.length
  | [], many, byte, h => by
    show ([] ++ (if many = 0 then [] else [many, byte])).length ≤ _
    unfold rsl
    split <;> simp
  | b :: r, many, byte, h => by
    have e : wfin (.runs many byte) (b :: r) = (wtake (.runs many byte) b).1 ++ wfin (wtake (.runs many byte) b).2 r := by
      unfold wfin
      rw [wfeed_cs]
      dsimp only
      rw [List.append_assoc]
    rw [e, List.length_append, List.length_cons]
    show (takeRuns many byte b).1.length + (wfin (takeRuns many byte b).2 r).length ≤ _
    unfold takeRuns
    split
    · rename_i h1
      have ih := runs_len2 r 1 b (by decide)
      have e1 : rsl 1 = 2 := rfl
      have e2 : rsl many = 2 := if_neg (by omega)
      rw [e1] at ih
      rw [e2]
      dsimp only
      simp only [List.length_cons, List.length_nil]
      omega
    · split
      · have ih := runs_len2 r 0 b (by decide)
        have e1 : rsl 0 = 0 := rfl
        rw [e1] at ih
        have e2 : rsl many = 2 := if_neg (by omega)
        rw [e2]
        dsimp only
        simp only [List.length_cons, List.length_nil]
        omega
      · have ih := runs_len2 r (many + 1) b (by omega)
        have e1 : rsl (many + 1) = 2 := if_neg (by omega)
        rw [e1] at ih
        dsimp only
        simp only [List.length_nil]
        omega
/-! great bytes -/
def bigc (r : Row) : Nat := r.countP fun x => decide (64 < x)
theorem bigc_nil : bigc [] = 0 := rfl
theorem bigc_cons (x : Int) (r : Row) : bigc (x :: r) = (if 64 < x then 1 else 0) + bigc r := by
  unfold bigc
  rw [List.countP_cons]
  by_cases h : 64 < x
  · simp [h]; omega
  · simp [h]
theorem bigc_app (x y : Row) : bigc (x ++ y) = bigc x + bigc y := List.countP_append ..
theorem bigc_take (r : Row) (n : Nat) : bigc (r.take n) ≤ bigc r := (List.take_sublist n r).countP_le
theorem bigc_drop (r : Row) (n : Nat) : bigc (r.drop n) ≤ bigc r := (List.drop_sublist n r).countP_le
theorem bigc_split (r : Row) (n : Nat) : bigc (r.take n) + bigc (r.drop n) = bigc r := by
  rw [← bigc_app, List.take_append_drop]
theorem bigc_one (x : Int) : bigc [x] ≤ 1 := by
  rw [bigc_cons, bigc_nil]
  split <;> omega
def sb (many byte : Int) : Nat := if 0 < many ∧ 64 < byte then 1 else 0
theorem pair_big {many byte : Int} (h0 : 0 < many) (h1 : many ≤ 64) : bigc [many, byte] = sb many byte := by
  rw [bigc_cons, bigc_cons, bigc_nil]
  unfold sb
  by_cases h : 64 < byte
  · rw [if_neg (by omega), if_pos h, if_pos ⟨h0, h⟩]
  · rw [if_neg (by omega), if_neg h, if_neg (by omega)]
theorem runs_big : ∀ (r : Row) (many byte : Int), 0 ≤ many → many + r.length ≤ 64 → bigc (wfin (.runs many byte) r) ≤ bigc r + sb many byte
  | [], many, byte, h0, h1 => by
    show bigc ([] ++ (if many = 0 then [] else [many, byte])) ≤ _
    rw [List.nil_append]
    split
    · rw [bigc_nil]; omega
    · rw [pair_big (by omega) (by simpa using h1), bigc_nil]; omega
  | b :: r, many, byte, h0, h1 => by
    rw [List.length_cons] at h1
    have e : wfin (.runs many byte) (b :: r) = (wtake (.runs many byte) b).1 ++ wfin (wtake (.runs many byte) b).2 r := by
      unfold wfin
      rw [wfeed_cs]
      dsimp only
      rw [List.append_assoc]
    rw [e, bigc_app, bigc_cons]
    show bigc (takeRuns many byte b).1 + bigc (wfin (takeRuns many byte b).2 r) ≤ _
    unfold takeRuns
    split
    · rename_i h2
      have ih := runs_big r 1 b (by decide) (by omega)
      have e1 : sb 1 b = (if 64 < b then 1 else 0) := by
        unfold sb
        by_cases c : 64 < b
        · rw [if_pos ⟨by decide, c⟩, if_pos c]
        · rw [if_neg (by omega), if_neg c]
      dsimp only
      rw [pair_big h2.1 (by omega)]
      rw [e1] at ih
      omega
    · rename_i h2
      split
      · omega
      · have ih := runs_big r (many + 1) b (by omega) (by omega)
        have e1 : sb (many + 1) b = (if 64 < b then 1 else 0) := by
          unfold sb
          by_cases c : 64 < b
          · rw [if_pos ⟨by omega, c⟩, if_pos c]
          · rw [if_neg (by omega), if_neg c]
        dsimp only
        rw [bigc_nil]
        rw [e1] at ih
        omega
theorem flatR_cons (n : Nat) (b : Int) (pcs : List (Nat × Int)) : flatR ((n, b) :: pcs) = List.replicate n b ++ flatR pcs := rfl
theorem runs_pcs : ∀ (pcs : List (Nat × Int)) (many byte : Int), 0 ≤ many → many + (flatR pcs).length ≤ 64 → bigc (wfin (.runs many byte) (flatR pcs)) ≤ pcs.length + (if many = 0 then 0 else 1)
  | [], many, byte, h0, h1 => by
    show bigc ([] ++ (if many = 0 then [] else [many, byte])) ≤ _
    have h1' : many ≤ 64 := by simpa [flatR] using h1
    rw [List.nil_append]
    split
    · rw [bigc_nil]; omega
    · rw [pair_big (by omega) h1']
      unfold sb
      split <;> simp
  | (n, b) :: pcs, many, byte, h0, h1 => by
    rw [flatR_cons] at h1 ⊢
    rw [List.length_append, List.length_replicate] at h1
    rw [List.length_cons]
    cases n with
    | zero =>
      have ih := runs_pcs pcs many byte h0 (by omega)
      simp only [List.replicate_zero, List.nil_append]
      omega
    | succ n =>
      rw [wfin_app, List.replicate_succ, wfeed_cs, bigc_app]
      dsimp only
      show bigc ((takeRuns many byte b).1 ++ (wfeed (takeRuns many byte b).2 (List.replicate n b)).1) + bigc (wfin (wfeed (takeRuns many byte b).2 (List.replicate n b)).2 (flatR pcs)) ≤ _
      unfold takeRuns
      split
      · rename_i h2
        dsimp only
        rw [runs_more n 1 b (by decide) (by omega)]
        dsimp only
        have ih := runs_pcs pcs (1 + n) b (by omega) (by omega)
        rw [if_neg (by omega)] at ih
        rw [List.append_nil, pair_big h2.1 (by omega), if_neg (by omega)]
        have : sb many byte ≤ 1 := by unfold sb; split <;> omega
        omega
      · split
        · omega
        · dsimp only
          rw [runs_more n (many + 1) b (by omega) (by omega)]
          dsimp only
          have ih := runs_pcs pcs (many + 1 + n) b (by omega) (by omega)
          rw [if_neg (by omega)] at ih
          rw [List.append_nil, bigc_nil]
          omega
/-! the reader of runs, pair by pair -/
def rpairs : Int → Int → Row → List (Int × Int)
  | lN, lB, c :: b :: r => if c = 0 then [] else if b = lB ∧ 0 < lN ∧ lN < 255 then [] else (c, b) :: rpairs c b r
  | _, _, _ => []
def unp (l : List (Int × Int)) : Row := (l.map fun q => List.replicate q.1.toNat q.2).flatten
theorem unp_cons (q : Int × Int) (l : List (Int × Int)) : unp (q :: l) = List.replicate q.1.toNat q.2 ++ unp l := rfl
theorem rfeed_pairs : ∀ (r : Row) (done lN lB : Int), (rfeed (.runs done 0 lN lB) r).1 = unp (rpairs lN lB r)
  | [], done, lN, lB => by simp [rpairs, unp, rfeed]
  | [c], done, lN, lB => by
    rw [rfeed_cons]
    simp only [rtake]
    rw [if_pos trivial]
    by_cases h : c = 0
    · rw [if_pos h]
      simp [rpairs, unp]
    · rw [if_neg h]
      simp [rpairs, unp, rfeed]
  | c :: b :: r, done, lN, lB => by
    rw [rfeed_cons]
    simp only [rtake]
    rw [if_pos trivial, rpairs]
    by_cases h : c = 0
    · rw [if_pos h, if_pos h]
      rfl
    · rw [if_neg h, if_neg h]
      dsimp only
      rw [rfeed_cons]
      simp only [rtake]
      rw [if_neg h]
      by_cases h2 : b = lB ∧ 0 < lN ∧ lN < 255
      · rw [if_pos h2, if_pos h2]
        rfl
      · rw [if_neg h2, if_neg h2]
        dsimp only
        rw [rfeed_pairs r (done + 1 + 1) c b, unp_cons]
        rfl
def n255 (r : Row) : Nat := r.countP fun x => decide (x = 255)
theorem n255_cons (x : Int) (r : Row) : n255 (x :: r) = (if x = 255 then 1 else 0) + n255 r := by
  unfold n255
  rw [List.countP_cons]
  by_cases h : x = 255
  · simp [h]; omega
  · simp [h]
theorem n255_app (x y : Row) : n255 (x ++ y) = n255 x + n255 y := List.countP_append ..
theorem n255_rep (n : Nat) (b : Int) : n255 (List.replicate n b) = if b = 255 then n else 0 := by
  unfold n255
  rw [List.countP_replicate]
  by_cases h : b = 255 <;> simp [h]
def chg : Row → Nat
  | x :: y :: r => (if x = y then 0 else 1) + chg (y :: r)
  | _ => 0
theorem chg_two (x y : Int) (r : Row) : chg (x :: y :: r) = (if x = y then 0 else 1) + chg (y :: r) := rfl
def credit (lN lB : Int) : Nat := if (lN = 0 ∨ lN = 255) ∧ lB ≠ 255 then 2 else 0
theorem credit_le (lN lB : Int) : credit lN lB ≤ 2 := by unfold credit; split <;> omega
theorem pairs_few : ∀ (r : Row) (lN lB : Int), Bys r → 0 ≤ lN → lN ≤ 255 → 2 * (rpairs lN lB r).length ≤ n255 r + 4 * chg (lB :: r) + credit lN lB
  | [], lN, lB, _, _, _ => by simp [rpairs]
  | [c], lN, lB, _, _, _ => by simp [rpairs]
  | c :: b :: r, lN, lB, hb, h0, h1 => by
    rw [rpairs]
    obtain ⟨c0, c1⟩ := hb.head
    by_cases h : c = 0
    · rw [if_pos h]; simp
    · rw [if_neg h]
      by_cases h2 : b = lB ∧ 0 < lN ∧ lN < 255
      · rw [if_pos h2]; simp
      · rw [if_neg h2, List.length_cons]
        have ih := pairs_few r c b hb.tail.tail c0 (by omega)
        rw [n255_cons, n255_cons, chg_two, chg_two]
        have hc := credit_le c b
        by_cases hcb : c = b
        · subst hcb
          rw [if_pos rfl]
          by_cases h5 : c = 255
          · subst h5
            have e : credit 255 255 = 0 := rfl
            rw [e] at ih
            rw [if_pos rfl]
            omega
          · rw [if_neg h5]
            by_cases hl : lB = c
            · subst hl
              have e1 : credit lB lB = 0 := by
                unfold credit
                rw [if_neg (by omega)]
              rw [e1] at ih
              have e3 : credit lN lB = 2 := if_pos ⟨by omega, h5⟩
              rw [e3]
              omega
            · rw [if_neg hl]
              omega
        · rw [if_neg hcb]
          omega
def c255 (l : List (Int × Int)) : Nat := l.countP fun q => decide (q.2 = 255)
theorem c255_cons (q : Int × Int) (l : List (Int × Int)) : c255 (q :: l) = (if q.2 = 255 then 1 else 0) + c255 l := by
  unfold c255
  rw [List.countP_cons]
  by_cases h : q.2 = 255
  · simp [h]; omega
  · simp [h]
theorem pairs_255 : ∀ (r : Row) (lN lB : Int), 2 * c255 (rpairs lN lB r) ≤ n255 r + chg (lB :: r)
  | [], lN, lB => by simp [rpairs, c255]
  | [c], lN, lB => by simp [rpairs, c255]
  | c :: b :: r, lN, lB => by
    rw [rpairs]
    by_cases h : c = 0
    · rw [if_pos h]; simp [c255]
    · rw [if_neg h]
      by_cases h2 : b = lB ∧ 0 < lN ∧ lN < 255
      · rw [if_pos h2]; simp [c255]
      · rw [if_neg h2, c255_cons]
        have ih := pairs_255 r c b
        rw [n255_cons, n255_cons, chg_two, chg_two]
        dsimp only
        by_cases hb : b = 255
        · rw [if_pos hb]
          by_cases hc : c = 255
          · rw [if_pos hc]
            omega
          · rw [if_neg hc, if_neg (show ¬ c = b by omega)]
            omega
        · rw [if_neg hb]
          omega
theorem chg_rep : ∀ (n : Nat) (b : Int) (t : Row), chg (b :: (List.replicate n b ++ t)) = chg (b :: t)
  | 0, b, t => rfl
  | n + 1, b, t => by
    rw [List.replicate_succ, List.cons_append, chg_two, if_pos rfl, Nat.zero_add]
    exact chg_rep n b t
theorem chg_unp : ∀ (l : List (Int × Int)) (x : Int), chg (x :: unp l) ≤ l.length
  | [], x => Nat.le_refl 0
  | (c, b) :: l, x => by
    rw [unp_cons, List.length_cons]
    dsimp only
    cases hn : c.toNat with
    | zero =>
      have := chg_unp l x
      simp only [List.replicate_zero, List.nil_append]
      omega
    | succ n =>
      have := chg_unp l b
      rw [List.replicate_succ, List.cons_append, chg_two, chg_rep]
      split <;> omega
theorem unp_len : ∀ (l : List (Int × Int)), (∀ q, q ∈ l → q.1 ≤ 255) → (unp l).length ≤ 255 * l.length
  | [], _ => Nat.le_refl 0
  | (c, b) :: l, h => by
    have h1 := h (c, b) (List.mem_cons_self ..)
    have ih := unp_len l fun q hq => h q (List.mem_cons_of_mem _ hq)
    rw [unp_cons, List.length_append, List.length_replicate, List.length_cons]
    dsimp only at h1 ⊢
    omega
theorem unp_255 : ∀ (l : List (Int × Int)), (∀ q, q ∈ l → q.1 ≤ 255) → n255 (unp l) ≤ 255 * c255 l
  | [], _ => Nat.zero_le _
  | (c, b) :: l, h => by
    have h1 := h (c, b) (List.mem_cons_self ..)
    have ih := unp_255 l fun q hq => h q (List.mem_cons_of_mem _ hq)
    rw [unp_cons, n255_app, n255_rep, c255_cons]
    dsimp only at h1 ⊢
    split <;> omega
theorem pairs_by : ∀ (r : Row) (lN lB : Int), Bys r → ∀ q, q ∈ rpairs lN lB r → q.1 ≤ 255
  | [], lN, lB, _ => by simp [rpairs]
  | [c], lN, lB, _ => by simp [rpairs]
  | c :: b :: r, lN, lB, hb => by
    rw [rpairs]
    obtain ⟨c0, c1⟩ := hb.head
    have ih := pairs_by r c b hb.tail.tail
    intro q hq
    split at hq
    · exact (nomatch hq)
    · split at hq
      · exact (nomatch hq)
      · rcases List.mem_cons.mp hq with z | z
        · rw [z]
          show c ≤ 255
          omega
        · exact ih q z
theorem pairs_big : ∀ (r : Row) (lN lB : Int), Bys r → 2 * n255 (unp (rpairs lN lB r)) ≤ 255 * bigc r
  | [], lN, lB, _ => by simp [rpairs, unp, n255]
  | [c], lN, lB, _ => by simp [rpairs, unp, n255]
  | c :: b :: r, lN, lB, hb => by
    rw [rpairs]
    obtain ⟨c0, c1⟩ := hb.head
    have ih := pairs_big r c b hb.tail.tail
    rw [bigc_cons, bigc_cons]
    by_cases h : c = 0
    · rw [if_pos h]; simp [unp, n255]
    · rw [if_neg h]
      by_cases h2 : b = lB ∧ 0 < lN ∧ lN < 255
      · rw [if_pos h2]; simp [unp, n255]
      · rw [if_neg h2, unp_cons, n255_app, n255_rep]
        dsimp only
        by_cases hb5 : b = 255
        · rw [if_pos hb5, if_pos (show 64 < b by omega)]
          by_cases hc : 64 < c
          · rw [if_pos hc]
            omega
          · rw [if_neg hc]
            omega
        · rw [if_neg hb5]
          omega
theorem pairs_len : ∀ (r : Row) (lN lB : Int), 2 * (rpairs lN lB r).length ≤ r.length
  | [], lN, lB => by simp [rpairs]
  | [c], lN, lB => by simp [rpairs]
  | c :: b :: r, lN, lB => by
    rw [rpairs]
    have ih := pairs_len r c b
    split
    · simp
    · split
      · simp
      · simp only [List.length_cons]
        omega
def unrun (r : Row) : Row := unp (rpairs 0 0 r)
theorem unrun_by {r : Row} (h : Bys r) : Bys (unrun r) := by
  have h1 := (rfeed_len r (newR .runs) (newR_ok (l := .runs) trivial) h).2.2
  show Bys (unp (rpairs 0 0 r))
  rw [← rfeed_pairs r 0 0 0]
  exact h1
theorem three_runs {S : Row} (hb : Bys S) (hl : S.length ≤ 130) (hg : bigc S ≤ 6) : (unrun (unrun (unrun S))).length ≤ 16000000 := by
  have b1 := unrun_by hb
  have b2 := unrun_by b1
  have a1 := pairs_len S 0 0
  have a2 := pairs_big S 0 0 hb
  have a3 := chg_unp (rpairs 0 0 S) 0
  have c1 := pairs_few (unrun S) 0 0 b1 (by decide) (by decide)
  have c2 := pairs_255 (unrun S) 0 0
  have c3 := chg_unp (rpairs 0 0 (unrun S)) 0
  have c4 := unp_255 (rpairs 0 0 (unrun S)) (pairs_by _ _ _ b1)
  have d1 := pairs_few (unrun (unrun S)) 0 0 b2 (by decide) (by decide)
  have d2 := unp_len (rpairs 0 0 (unrun (unrun S))) (pairs_by _ _ _ b2)
  have e1 : credit 0 0 = 2 := rfl
  rw [e1] at c1 d1
  show (unp (rpairs 0 0 (unrun (unrun S)))).length ≤ _
  have f1 : n255 (unrun S) = n255 (unp (rpairs 0 0 S)) := rfl
  have f2 : chg (0 :: unrun S) = chg (0 :: unp (rpairs 0 0 S)) := rfl
  have f3 : n255 (unrun (unrun S)) = n255 (unp (rpairs 0 0 (unrun S))) := rfl
  have f4 : chg (0 :: unrun (unrun S)) = chg (0 :: unp (rpairs 0 0 (unrun S))) := rfl
  rw [f1, f2] at c1 c2
  rw [f3, f4] at d1
  omega
/-- through three layers of runs -/
theorem rseq_three (S : Row) : (rseq (rone 3) [newR .runs, newR .runs, newR .runs] S).1 = unrun (unrun (unrun S)) := by
  have k : ∀ r : Row, (rfeed (newR .runs) r).1 = unrun r := fun r => rfeed_pairs r 0 0 0
  have z : ∀ r : Row, (rseq (rone 0) [] r).1 = r := by
    intro r
    induction r with
    | nil => rfl
    | cons b r ih =>
      rw [rseq_cons]
      show [b] ++ (rseq (rone 0) [] r).1 = _
      rw [ih]
      rfl
  rw [(rseq_layer 2 S (newR .runs) [newR .runs, newR .runs]).1, (rseq_layer 1 _ (newR .runs) [newR .runs]).1, (rseq_layer 0 _ (newR .runs) []).1, z, k, k, k]
theorem rfin_runs (r : Row) : (rfin (newR .runs) r).1 = unrun r := by
  have k := rfeed_pairs r 0 0 0
  unfold rfin
  show (match rfeed (.runs 0 0 0 0) r with
    | (o, _, some p) => ((o, some (LF.wrong p)) : Row × Option LF)
    | (o, s', none) => match rend s' with
      | .wrong p => (o, some (.wrong p))
      | .cut => (o, some .cut)
      | .ok row => (o ++ row, none)).1 = _
  obtain ⟨h1, h2, h3⟩ : True ∧ True ∧ True := ⟨trivial, trivial, trivial⟩
  have hst : ∀ (r : Row) (d m lN lB : Int), ∃ d' m' lN' lB', (rfeed (.runs d m lN lB) r).2.1 = .runs d' m' lN' lB' := by
    intro r
    induction r with
    | nil => intro d m lN lB; exact ⟨d, m, lN, lB, rfl⟩
    | cons b r ih =>
      intro d m lN lB
      rw [rfeed_cons]
      simp only [rtake]
      split
      · rename_i p hp
        exact ⟨d, m, lN, lB, rfl⟩
      · rename_i o s' hp
        split at hp
        · split at hp
          · cases hp
          · injection hp with e1 e2
            subst e1 e2
            exact ih _ _ _ _
        · split at hp
          · cases hp
          · injection hp with e1 e2
            subst e1 e2
            exact ih _ _ _ _
  obtain ⟨d', m', lN', lB', es⟩ := hst r 0 0 0 0
  generalize rfeed (.runs 0 0 0 0) r = q at *
  obtain ⟨o, s', f⟩ := q
  dsimp only at es k
  subst es
  cases f with
  | some p => exact k
  | none =>
    dsimp only [rend]
    split
    · rename_i p hp
      split at hp <;> cases hp
    · exact k
    · rename_i row hp
      split at hp
      · cases hp
      · injection hp with e
        subst e
        show o ++ [] = _
        rw [List.append_nil]
        exact k
theorem readAll_three (S : Row) (hb : Bys S) (hl : S.length ≤ 130) (hg : bigc S ≤ 6) : (readAll [.runs, .runs, .runs] S).1.length ≤ 16000000 := by
  have k : ∀ r : Row, (rfeed (newR .runs) r).1 = unrun r := fun r => rfeed_pairs r 0 0 0
  have z : ∀ r : Row, (rseq (rone 0) [] r).1 = r := by
    intro r
    induction r with
    | nil => rfl
    | cons b r ih =>
      rw [rseq_cons]
      show [b] ++ (rseq (rone 0) [] r).1 = _
      rw [ih]
      rfl
  have h3 := three_runs hb hl hg
  -- what a part tells, whether it ends with a fault or not
  have one : ∀ (l : List Lay) (r : Row), (readAll (l ++ [.runs]) r).1 = (readAll l (unrun r)).1 ∨ (readAll (l ++ [.runs]) r).1 = (rseq (rone l.length) (l.reverse.map newR) (unrun r)).1 := by
    intro l r
    rw [readAll_snoc]
    have h1 := rfin_runs r
    generalize rfin (newR .runs) r = F at *
    obtain ⟨o, f⟩ := F
    dsimp only at h1
    subst h1
    cases f with
    | none => exact Or.inl rfl
    | some f =>
      refine Or.inr ?_
      dsimp only
      generalize rseq (rone l.length) (l.reverse.map newR) (unrun r) = G
      obtain ⟨g1, g2, g3⟩ := G
      cases g3 <;> rfl
  have r1 : ∀ r, (rseq (rone 1) [newR .runs] r).1 = unrun r := fun r => by rw [(rseq_layer 0 r (newR .runs) []).1, z, k]
  have r2 : ∀ r, (rseq (rone 2) [newR .runs, newR .runs] r).1 = unrun (unrun r) := fun r => by rw [(rseq_layer 1 r (newR .runs) [newR .runs]).1, r1, k]
  have q1 : ∀ r, (readAll [.runs] r).1 = unrun r := fun r => by
    rcases one [] r with h | h
    · have h' : (readAll [.runs] r).1 = (readAll [] (unrun r)).1 := h
      rw [h', readAll_nil]
    · have h' : (readAll [.runs] r).1 = (rseq (rone 0) [] (unrun r)).1 := h
      rw [h', z]
  have q2 : ∀ r, (readAll [.runs, .runs] r).1 = unrun (unrun r) := fun r => by
    rcases one [.runs] r with h | h
    · have h' : (readAll [.runs, .runs] r).1 = (readAll [.runs] (unrun r)).1 := h
      rw [h', q1]
    · have h' : (readAll [.runs, .runs] r).1 = (rseq (rone 1) [newR .runs] (unrun r)).1 := h
      rw [h', r1]
  rcases one [.runs, .runs] S with h | h
  · have h' : (readAll [.runs, .runs, .runs] S).1 = (readAll [.runs, .runs] (unrun S)).1 := h
    rw [h', q2]
    exact h3
  · have h' : (readAll [.runs, .runs, .runs] S).1 = (rseq (rone 2) [newR .runs, newR .runs] (unrun S)).1 := h
    rw [h', r2]
    exact h3
/-! all layers -/
theorem stream_small48 {lays : List Lay} {row : Row} (h : ∀ ly, ly ∈ lays → ly.Ok) (h3 : lays.length ≤ 3) (hb : Bys row) (hr : row.length ≤ 48) : (written lays row).length ≤ 19000 := by
  have h1 : bnd lays.length row.length ≤ 5000 := by
    refine Nat.le_trans (bnd_mono _ hr) (Nat.le_trans (bnd_more 48 h3) ?_)
    decide
  have h2 : ebd lays.length ≤ 5000 := by
    refine Nat.le_trans (ebd_mono h3) ?_
    decide
  have := written_short h (by omega) hb (by omega)
  omega
theorem lay_runs (ly : Lay) : ly = .runs ∨ wt ly = 1 := by cases ly <;> first | exact Or.inl rfl | exact Or.inr rfl
theorem runs_w2 (r : Row) : (wfin (newW .runs) r).length ≤ 2 * r.length := by
  have := runs_len2 r 0 0 (by decide)
  have e : rsl 0 = 0 := rfl
  rw [e] at this
  show (wfin (.runs 0 0) r).length ≤ _
  omega
theorem wr1 (x : Lay) (r : Row) : written [x] r = wfin (newW x) r := by
  have := written_snoc [] x r
  rw [written_nil] at this
  exact this
theorem wr2 (x y : Lay) (r : Row) : written [x, y] r = wfin (newW y) (wfin (newW x) r) := by
  have := written_snoc [x] y r
  rw [wr1] at this
  exact this
theorem wr3 (x y z : Lay) (r : Row) : written [x, y, z] r = wfin (newW z) (wfin (newW y) (wfin (newW x) r)) := by
  have := written_snoc [x, y] z r
  rw [wr2] at this
  exact this
theorem wt_runs : wt .runs = 255 := rfl
theorem told_fits {lays : List Lay} {row S : Row} {most : Nat} {pcs : List (Nat × Int)} (oks : ∀ ly, ly ∈ lays → ly.Ok) (h3 : lays.length ≤ 3) (hb : Bys row) (hm : most ≤ 12) (hm2 : 2 ≤ lays.length → most ≤ 5) (hm3 : 3 ≤ lays.length → most ≤ 4)
    (hr : row.length ≤ 4 * most) (hp : pcs.length ≤ most) (hpr : row = flatR pcs) (hS : Bys S) (hl : S.length ≤ (written lays row).length + 2) (hg : bigc S ≤ bigc (written lays row) + 2) :
    (readAll lays S).1.length ≤ 16000000 ∧ (rseq (rone lays.length) (lays.reverse.map newR) S).1.length ≤ 16000000 := by
  have s1 := (readAll_size lays oks S hS).1
  have s2 := (rseq_size lays oks S hS).1
  have sm := stream_small48 oks h3 hb (by omega)
  have gen : wts lays * S.length ≤ 16000000 → (readAll lays S).1.length ≤ 16000000 ∧ (rseq (rone lays.length) (lays.reverse.map newR) S).1.length ≤ 16000000 := fun h => ⟨Nat.le_trans s1 h, Nat.le_trans s2 h⟩
  have small : wts lays ≤ 255 → (readAll lays S).1.length ≤ 16000000 ∧ (rseq (rone lays.length) (lays.reverse.map newR) S).1.length ≤ 16000000 := fun h => gen (by
    have : wts lays * S.length ≤ 255 * 19002 := Nat.mul_le_mul h (by omega)
    omega)
  have mid : wts lays ≤ 65025 → S.length ≤ 202 → (readAll lays S).1.length ≤ 16000000 ∧ (rseq (rone lays.length) (lays.reverse.map newR) S).1.length ≤ 16000000 := fun h h2 => gen (by
    have : wts lays * S.length ≤ 65025 * 202 := Nat.mul_le_mul h h2
    omega)
  match lays, h3, hm2, hm3 with
  | [], _, _, _ => exact small (by simp [wts])
  | [x], _, _, _ =>
    refine small ?_
    rcases lay_runs x with rfl | hx
    · decide
    · simp [wts, hx]
  | [x, y], _, hm2, _ =>
    have m5 := hm2 (by simp)
    rcases lay_runs x with rfl | hx
    · rcases lay_runs y with rfl | hy
      · refine mid (by decide) ?_
        rw [wr2] at hl
        have := runs_w2 row
        have := runs_w2 (wfin (newW .runs) row)
        omega
      · exact small (by simp [wts, hy, wt_runs])
    · rcases lay_runs y with rfl | hy
      · exact small (by simp [wts, hx, wt_runs])
      · exact small (by simp [wts, hx, hy])
  | [x, y, z], _, _, hm3 =>
    have m4 := hm3 (by simp)
    rw [wr3] at hl hg
    rcases lay_runs x with rfl | hx
    · rcases lay_runs y with rfl | hy
      · rcases lay_runs z with rfl | hz
        · have l1 := runs_w2 row
          have l2 := runs_w2 (wfin (newW .runs) row)
          have l3 := runs_w2 (wfin (newW .runs) (wfin (newW .runs) row))
          have g1 : bigc (wfin (newW .runs) row) ≤ 4 := by
            have := runs_pcs pcs 0 0 (by decide) (by rw [← hpr]; omega)
            rw [← hpr, if_pos rfl] at this
            show bigc (wfin (.runs 0 0) row) ≤ 4
            omega
          have g2 : bigc (wfin (newW .runs) (wfin (newW .runs) row)) ≤ 4 := by
            have h1 := runs_big (wfin (newW .runs) row) 0 0 (by decide) (by omega)
            have e : sb 0 0 = 0 := rfl
            rw [e] at h1
            show bigc (wfin (.runs 0 0) (wfin (newW .runs) row)) ≤ 4
            omega
          have g3 : bigc (wfin (newW .runs) (wfin (newW .runs) (wfin (newW .runs) row))) ≤ 4 := by
            have h1 := runs_big (wfin (newW .runs) (wfin (newW .runs) row)) 0 0 (by decide) (by omega)
            have e : sb 0 0 = 0 := rfl
            rw [e] at h1
            show bigc (wfin (.runs 0 0) (wfin (newW .runs) (wfin (newW .runs) row))) ≤ 4
            omega
          refine ⟨readAll_three S hS (by omega) (by omega), ?_⟩
          show (rseq (rone 3) [newR .runs, newR .runs, newR .runs] S).1.length ≤ _
          rw [rseq_three]
          exact three_runs hS (by omega) (by omega)
        · refine mid (by simp [wts, hz, wt_runs]) ?_
          have := runs_w2 row
          have := runs_w2 (wfin (newW .runs) row)
          have := wfin_len3 z (wfin (newW .runs) (wfin (newW .runs) row))
          omega
      · rcases lay_runs z with rfl | hz
        · refine mid (by simp [wts, hy, wt_runs]) ?_
          have := runs_w2 row
          have := wfin_len3 y (wfin (newW .runs) row)
          have := runs_w2 (wfin (newW y) (wfin (newW .runs) row))
          omega
        · exact small (by simp [wts, hy, hz, wt_runs])
    · rcases lay_runs y with rfl | hy
      · rcases lay_runs z with rfl | hz
        · refine mid (by simp [wts, hx, wt_runs]) ?_
          have := wfin_len3 x row
          have := runs_w2 (wfin (newW x) row)
          have := runs_w2 (wfin (newW .runs) (wfin (newW x) row))
          omega
        · exact small (by simp [wts, hx, hz, wt_runs])
      · rcases lay_runs z with rfl | hz
        · exact small (by simp [wts, hx, hy, wt_runs])
        · exact small (by simp [wts, hx, hy, hz])
  | _ :: _ :: _ :: _ :: _, h, _, _ => simp at h
end Flow

namespace Flow
open PySem PySem.Spec PyProof.Rows L2
def top (i : Nat) : Stmt := PySem.Challenge.pw_flowstack_k14_whole_faults_in_pieces.main.body.getD i (.Pass ⟨0, 0, 0, 0⟩)
abbrev s_checked : Stmt := top 10
abbrev s_check_bytes : Stmt := top 11
abbrev s_look_layer : Stmt := top 32
abbrev s_look_layers : Stmt := top 33
abbrev s_writer_of : Stmt := top 34
abbrev s_reader_of : Stmt := top 35
abbrev s_through : Stmt := top 36
abbrev s_written : Stmt := top 39
abbrev s_read : Stmt := top 40
abbrev s_law_cell : Stmt := top 42
abbrev s_law_mix : Stmt := top 43
abbrev s_law_whole : Stmt := top 44
abbrev s_law_layer : Stmt := top 45
abbrev s_law_layers : Stmt := top 46
abbrev s_law_row : Stmt := top 47
abbrev s_law_cuts : Stmt := top 48
abbrev s_law_spoilt : Stmt := top 49
abbrev s_law : Stmt := top 50
abbrev s_Wrong_init : Stmt := inClass (top 3) 0
abbrev s_ChunksWriter_init : Stmt := inClass (top 8) 0
abbrev s_ChunksWriter_take : Stmt := inClass (top 8) 1
abbrev s_ChunksWriter_end : Stmt := inClass (top 8) 2
abbrev s_ChunksReader_init : Stmt := inClass (top 9) 0
abbrev s_ChunksReader_take : Stmt := inClass (top 9) 1
abbrev s_ChunksReader_end : Stmt := inClass (top 9) 2
abbrev s_ChecksWriter_init : Stmt := inClass (top 12) 0
abbrev s_ChecksWriter_take : Stmt := inClass (top 12) 1
abbrev s_ChecksWriter_end : Stmt := inClass (top 12) 2
abbrev s_ChecksReader_init : Stmt := inClass (top 13) 0
abbrev s_ChecksReader_block : Stmt := inClass (top 13) 1
abbrev s_ChecksReader_take : Stmt := inClass (top 13) 2
abbrev s_ChecksReader_end : Stmt := inClass (top 13) 3
abbrev s_EscapeWriter_init : Stmt := inClass (top 16) 0
abbrev s_EscapeWriter_take : Stmt := inClass (top 16) 1
abbrev s_EscapeWriter_end : Stmt := inClass (top 16) 2
abbrev s_EscapeReader_init : Stmt := inClass (top 17) 0
abbrev s_EscapeReader_take : Stmt := inClass (top 17) 1
abbrev s_EscapeReader_end : Stmt := inClass (top 17) 2
abbrev s_RunsWriter_init : Stmt := inClass (top 18) 0
abbrev s_RunsWriter_take : Stmt := inClass (top 18) 1
abbrev s_RunsWriter_end : Stmt := inClass (top 18) 2
abbrev s_RunsReader_init : Stmt := inClass (top 19) 0
abbrev s_RunsReader_take : Stmt := inClass (top 19) 1
abbrev s_RunsReader_end : Stmt := inClass (top 19) 2
abbrev s_SignsWriter_init : Stmt := inClass (top 23) 0
abbrev s_SignsWriter_take : Stmt := inClass (top 23) 1
abbrev s_SignsWriter_end : Stmt := inClass (top 23) 2
abbrev s_SignsReader_init : Stmt := inClass (top 24) 0
abbrev s_SignsReader_take : Stmt := inClass (top 24) 1
abbrev s_SignsReader_end : Stmt := inClass (top 24) 2
abbrev s_AddWriter_init : Stmt := inClass (top 26) 0
abbrev s_AddWriter_turned : Stmt := inClass (top 26) 1
abbrev s_AddWriter_take : Stmt := inClass (top 26) 2
abbrev s_AddWriter_end : Stmt := inClass (top 26) 3
abbrev s_AddReader_turned : Stmt := inClass (top 27) 0
abbrev s_FrontWriter_init : Stmt := inClass (top 28) 0
abbrev s_FrontWriter_to_front : Stmt := inClass (top 28) 1
abbrev s_FrontWriter_take : Stmt := inClass (top 28) 2
abbrev s_FrontWriter_end : Stmt := inClass (top 28) 3
abbrev s_FrontReader_take : Stmt := inClass (top 29) 0
abbrev s_Writer_init : Stmt := inClass (top 37) 0
abbrev s_Writer_take : Stmt := inClass (top 37) 1
abbrev s_Writer_end : Stmt := inClass (top 37) 2
abbrev s_Reader_init : Stmt := inClass (top 38) 0
abbrev s_Reader_one : Stmt := inClass (top 38) 1
abbrev s_Reader_take : Stmt := inClass (top 38) 2
abbrev s_Reader_end : Stmt := inClass (top 38) 3
abbrev s_Reader_closing : Stmt := inClass (top 38) 4
abbrev n_checked : List Str := ["check", "row", "byte"]
theorem sc_checked : FnScope n_checked ["check", "row"] (defScope s_checked) := ⟨rfl, rfl, rfl, by decide +kernel, rfl, by decide +kernel, by decide +kernel⟩
abbrev n_check_bytes : List Str := ["check"]
theorem sc_check_bytes : FnScope n_check_bytes ["check"] (defScope s_check_bytes) := ⟨rfl, rfl, rfl, by decide +kernel, rfl, by decide +kernel, by decide +kernel⟩
abbrev n_look_layer : List Str := ["layer", "kind", "good", "byte"]
theorem sc_look_layer : FnScope n_look_layer ["layer"] (defScope s_look_layer) := ⟨rfl, rfl, rfl, by decide +kernel, rfl, by decide +kernel, by decide +kernel⟩
abbrev n_look_layers : List Str := ["layers", "layer"]
theorem sc_look_layers : FnScope n_look_layers ["layers"] (defScope s_look_layers) := ⟨rfl, rfl, rfl, by decide +kernel, rfl, by decide +kernel, by decide +kernel⟩
abbrev n_writer_of : List Str := ["layer"]
theorem sc_writer_of : FnScope n_writer_of ["layer"] (defScope s_writer_of) := ⟨rfl, rfl, rfl, by decide +kernel, rfl, by decide +kernel, by decide +kernel⟩
abbrev n_reader_of : List Str := ["layer"]
theorem sc_reader_of : FnScope n_reader_of ["layer"] (defScope s_reader_of) := ⟨rfl, rfl, rfl, by decide +kernel, rfl, by decide +kernel, by decide +kernel⟩
abbrev n_through : List Str := ["parts", "at", "row", "part", "found", "byte"]
theorem sc_through : FnScope n_through ["parts", "at", "row"] (defScope s_through) := ⟨rfl, rfl, rfl, by decide +kernel, rfl, by decide +kernel, by decide +kernel⟩
abbrev n_written : List Str := ["layers", "row", "writer"]
theorem sc_written : FnScope n_written ["layers", "row"] (defScope s_written) := ⟨rfl, rfl, rfl, by decide +kernel, rfl, by decide +kernel, by decide +kernel⟩
abbrev n_read : List Str := ["layers", "row", "reader", "first", "second"]
theorem sc_read : FnScope n_read ["layers", "row"] (defScope s_read) := ⟨rfl, rfl, rfl, by decide +kernel, rfl, by decide +kernel, by decide +kernel⟩
abbrev n_law_cell : List Str := ["_law_script", "_law_k"]
theorem sc_law_cell : FnScope n_law_cell ["_law_script", "_law_k"] (defScope s_law_cell) := ⟨rfl, rfl, rfl, by decide +kernel, rfl, by decide +kernel, by decide +kernel⟩
abbrev n_law_mix : List Str := ["_law_script", "_law_k", "_law_number"]
theorem sc_law_mix : FnScope n_law_mix ["_law_script", "_law_k"] (defScope s_law_mix) := ⟨rfl, rfl, rfl, by decide +kernel, rfl, by decide +kernel, by decide +kernel⟩
abbrev n_law_whole : List Str := ["_law_found"]
theorem sc_law_whole : FnScope n_law_whole ["_law_found"] (defScope s_law_whole) := ⟨rfl, rfl, rfl, by decide +kernel, rfl, by decide +kernel, by decide +kernel⟩
abbrev n_law_layer : List Str := ["_law_script", "_law_k", "_law_number", "_law_word", "_law_j"]
theorem sc_law_layer : FnScope n_law_layer ["_law_script", "_law_k"] (defScope s_law_layer) := ⟨rfl, rfl, rfl, by decide +kernel, rfl, by decide +kernel, by decide +kernel⟩
abbrev n_law_layers : List Str := ["_law_script", "_law_k", "_law_most", "_law_j"]
theorem sc_law_layers : FnScope n_law_layers ["_law_script", "_law_k", "_law_most"] (defScope s_law_layers) := ⟨rfl, rfl, rfl, by decide +kernel, rfl, by decide +kernel, by decide +kernel⟩
abbrev n_law_row : List Str := ["_law_script", "_law_k", "_law_pieces", "_law_long", "_law_found", "_law_j", "_law_number", "_law_byte", "_law_many"]
theorem sc_law_row : FnScope n_law_row ["_law_script", "_law_k", "_law_pieces", "_law_long"] (defScope s_law_row) := ⟨rfl, rfl, rfl, by decide +kernel, rfl, by decide +kernel, by decide +kernel⟩
abbrev n_law_cuts : List Str := ["_law_script", "_law_k", "_law_row_here", "_law_found", "_law_at", "_law_many"]
theorem sc_law_cuts : FnScope n_law_cuts ["_law_script", "_law_k", "_law_row_here"] (defScope s_law_cuts) := ⟨rfl, rfl, rfl, by decide +kernel, rfl, by decide +kernel, by decide +kernel⟩
abbrev n_law_spoilt : List Str := ["_law_script", "_law_k", "_law_stream", "_law_number", "_law_at", "_law_byte", "_law_some"]
theorem sc_law_spoilt : FnScope n_law_spoilt ["_law_script", "_law_k", "_law_stream"] (defScope s_law_spoilt) := ⟨rfl, rfl, rfl, by decide +kernel, rfl, by decide +kernel, by decide +kernel⟩
abbrev n_law : List Str := ["_law_script", "_law_layers_here", "_law_row_here", "_law_stream", "_law_k", "_law_whole_here", "_law_reader", "_law_told", "_law_fault", "_law_at", "_law_piece", "_law_handed", "_law_found", "_law_writer", "_law_first", "_law_kept"]
theorem sc_law : FnScope n_law ["_law_script"] (defScope s_law) := ⟨rfl, rfl, rfl, by decide +kernel, rfl, by decide +kernel, by decide +kernel⟩
abbrev n_Wrong_init : List Str := ["self", "place"]
theorem sc_Wrong_init : FnScope n_Wrong_init ["self", "place"] (defScope s_Wrong_init) := ⟨rfl, rfl, rfl, by decide +kernel, rfl, by decide +kernel, by decide +kernel⟩
abbrev n_ChunksWriter_init : List Str := ["self", "size"]
theorem sc_ChunksWriter_init : FnScope n_ChunksWriter_init ["self", "size"] (defScope s_ChunksWriter_init) := ⟨rfl, rfl, rfl, by decide +kernel, rfl, by decide +kernel, by decide +kernel⟩
abbrev n_ChunksWriter_take : List Str := ["self", "byte"]
theorem sc_ChunksWriter_take : FnScope n_ChunksWriter_take ["self", "byte"] (defScope s_ChunksWriter_take) := ⟨rfl, rfl, rfl, by decide +kernel, rfl, by decide +kernel, by decide +kernel⟩
abbrev n_ChunksWriter_end : List Str := ["self", "found"]
theorem sc_ChunksWriter_end : FnScope n_ChunksWriter_end ["self"] (defScope s_ChunksWriter_end) := ⟨rfl, rfl, rfl, by decide +kernel, rfl, by decide +kernel, by decide +kernel⟩
abbrev n_ChunksReader_init : List Str := ["self", "size"]
theorem sc_ChunksReader_init : FnScope n_ChunksReader_init ["self", "size"] (defScope s_ChunksReader_init) := ⟨rfl, rfl, rfl, by decide +kernel, rfl, by decide +kernel, by decide +kernel⟩
abbrev n_ChunksReader_take : List Str := ["self", "byte", "place"]
theorem sc_ChunksReader_take : FnScope n_ChunksReader_take ["self", "byte"] (defScope s_ChunksReader_take) := ⟨rfl, rfl, rfl, by decide +kernel, rfl, by decide +kernel, by decide +kernel⟩
abbrev n_ChunksReader_end : List Str := ["self"]
theorem sc_ChunksReader_end : FnScope n_ChunksReader_end ["self"] (defScope s_ChunksReader_end) := ⟨rfl, rfl, rfl, by decide +kernel, rfl, by decide +kernel, by decide +kernel⟩
abbrev n_ChecksWriter_init : List Str := ["self", "size"]
theorem sc_ChecksWriter_init : FnScope n_ChecksWriter_init ["self", "size"] (defScope s_ChecksWriter_init) := ⟨rfl, rfl, rfl, by decide +kernel, rfl, by decide +kernel, by decide +kernel⟩
abbrev n_ChecksWriter_take : List Str := ["self", "byte"]
theorem sc_ChecksWriter_take : FnScope n_ChecksWriter_take ["self", "byte"] (defScope s_ChecksWriter_take) := ⟨rfl, rfl, rfl, by decide +kernel, rfl, by decide +kernel, by decide +kernel⟩
abbrev n_ChecksWriter_end : List Str := ["self"]
theorem sc_ChecksWriter_end : FnScope n_ChecksWriter_end ["self"] (defScope s_ChecksWriter_end) := ⟨rfl, rfl, rfl, by decide +kernel, rfl, by decide +kernel, by decide +kernel⟩
abbrev n_ChecksReader_init : List Str := ["self", "size"]
theorem sc_ChecksReader_init : FnScope n_ChecksReader_init ["self", "size"] (defScope s_ChecksReader_init) := ⟨rfl, rfl, rfl, by decide +kernel, rfl, by decide +kernel, by decide +kernel⟩
abbrev n_ChecksReader_block : List Str := ["self", "row"]
theorem sc_ChecksReader_block : FnScope n_ChecksReader_block ["self"] (defScope s_ChecksReader_block) := ⟨rfl, rfl, rfl, by decide +kernel, rfl, by decide +kernel, by decide +kernel⟩
abbrev n_ChecksReader_take : List Str := ["self", "byte"]
theorem sc_ChecksReader_take : FnScope n_ChecksReader_take ["self", "byte"] (defScope s_ChecksReader_take) := ⟨rfl, rfl, rfl, by decide +kernel, rfl, by decide +kernel, by decide +kernel⟩
abbrev n_ChecksReader_end : List Str := ["self"]
theorem sc_ChecksReader_end : FnScope n_ChecksReader_end ["self"] (defScope s_ChecksReader_end) := ⟨rfl, rfl, rfl, by decide +kernel, rfl, by decide +kernel, by decide +kernel⟩
abbrev n_EscapeWriter_init : List Str := ["self", "byte", "k"]
theorem sc_EscapeWriter_init : FnScope n_EscapeWriter_init ["self", "byte"] (defScope s_EscapeWriter_init) := ⟨rfl, rfl, rfl, by decide +kernel, rfl, by decide +kernel, by decide +kernel⟩
abbrev n_EscapeWriter_take : List Str := ["self", "byte"]
theorem sc_EscapeWriter_take : FnScope n_EscapeWriter_take ["self", "byte"] (defScope s_EscapeWriter_take) := ⟨rfl, rfl, rfl, by decide +kernel, rfl, by decide +kernel, by decide +kernel⟩
abbrev n_EscapeWriter_end : List Str := ["self"]
theorem sc_EscapeWriter_end : FnScope n_EscapeWriter_end ["self"] (defScope s_EscapeWriter_end) := ⟨rfl, rfl, rfl, by decide +kernel, rfl, by decide +kernel, by decide +kernel⟩
abbrev n_EscapeReader_init : List Str := ["self", "byte", "k"]
theorem sc_EscapeReader_init : FnScope n_EscapeReader_init ["self", "byte"] (defScope s_EscapeReader_init) := ⟨rfl, rfl, rfl, by decide +kernel, rfl, by decide +kernel, by decide +kernel⟩
abbrev n_EscapeReader_take : List Str := ["self", "byte", "place"]
theorem sc_EscapeReader_take : FnScope n_EscapeReader_take ["self", "byte"] (defScope s_EscapeReader_take) := ⟨rfl, rfl, rfl, by decide +kernel, rfl, by decide +kernel, by decide +kernel⟩
abbrev n_EscapeReader_end : List Str := ["self"]
theorem sc_EscapeReader_end : FnScope n_EscapeReader_end ["self"] (defScope s_EscapeReader_end) := ⟨rfl, rfl, rfl, by decide +kernel, rfl, by decide +kernel, by decide +kernel⟩
abbrev n_RunsWriter_init : List Str := ["self"]
theorem sc_RunsWriter_init : FnScope n_RunsWriter_init ["self"] (defScope s_RunsWriter_init) := ⟨rfl, rfl, rfl, by decide +kernel, rfl, by decide +kernel, by decide +kernel⟩
abbrev n_RunsWriter_take : List Str := ["self", "byte", "found"]
theorem sc_RunsWriter_take : FnScope n_RunsWriter_take ["self", "byte"] (defScope s_RunsWriter_take) := ⟨rfl, rfl, rfl, by decide +kernel, rfl, by decide +kernel, by decide +kernel⟩
abbrev n_RunsWriter_end : List Str := ["self", "many"]
theorem sc_RunsWriter_end : FnScope n_RunsWriter_end ["self"] (defScope s_RunsWriter_end) := ⟨rfl, rfl, rfl, by decide +kernel, rfl, by decide +kernel, by decide +kernel⟩
abbrev n_RunsReader_init : List Str := ["self"]
theorem sc_RunsReader_init : FnScope n_RunsReader_init ["self"] (defScope s_RunsReader_init) := ⟨rfl, rfl, rfl, by decide +kernel, rfl, by decide +kernel, by decide +kernel⟩
abbrev n_RunsReader_take : List Str := ["self", "byte", "place"]
theorem sc_RunsReader_take : FnScope n_RunsReader_take ["self", "byte"] (defScope s_RunsReader_take) := ⟨rfl, rfl, rfl, by decide +kernel, rfl, by decide +kernel, by decide +kernel⟩
abbrev n_RunsReader_end : List Str := ["self"]
theorem sc_RunsReader_end : FnScope n_RunsReader_end ["self"] (defScope s_RunsReader_end) := ⟨rfl, rfl, rfl, by decide +kernel, rfl, by decide +kernel, by decide +kernel⟩
abbrev n_SignsWriter_init : List Str := ["self"]
theorem sc_SignsWriter_init : FnScope n_SignsWriter_init ["self"] (defScope s_SignsWriter_init) := ⟨rfl, rfl, rfl, by decide +kernel, rfl, by decide +kernel, by decide +kernel⟩
abbrev n_SignsWriter_take : List Str := ["self", "byte", "found"]
theorem sc_SignsWriter_take : FnScope n_SignsWriter_take ["self", "byte"] (defScope s_SignsWriter_take) := ⟨rfl, rfl, rfl, by decide +kernel, rfl, by decide +kernel, by decide +kernel⟩
abbrev n_SignsWriter_end : List Str := ["self"]
theorem sc_SignsWriter_end : FnScope n_SignsWriter_end ["self"] (defScope s_SignsWriter_end) := ⟨rfl, rfl, rfl, by decide +kernel, rfl, by decide +kernel, by decide +kernel⟩
abbrev n_SignsReader_init : List Str := ["self"]
theorem sc_SignsReader_init : FnScope n_SignsReader_init ["self"] (defScope s_SignsReader_init) := ⟨rfl, rfl, rfl, by decide +kernel, rfl, by decide +kernel, by decide +kernel⟩
abbrev n_SignsReader_take : List Str := ["self", "byte", "place", "found"]
theorem sc_SignsReader_take : FnScope n_SignsReader_take ["self", "byte"] (defScope s_SignsReader_take) := ⟨rfl, rfl, rfl, by decide +kernel, rfl, by decide +kernel, by decide +kernel⟩
abbrev n_SignsReader_end : List Str := ["self"]
theorem sc_SignsReader_end : FnScope n_SignsReader_end ["self"] (defScope s_SignsReader_end) := ⟨rfl, rfl, rfl, by decide +kernel, rfl, by decide +kernel, by decide +kernel⟩
abbrev n_AddWriter_init : List Str := ["self", "key"]
theorem sc_AddWriter_init : FnScope n_AddWriter_init ["self", "key"] (defScope s_AddWriter_init) := ⟨rfl, rfl, rfl, by decide +kernel, rfl, by decide +kernel, by decide +kernel⟩
abbrev n_AddWriter_turned : List Str := ["self", "byte"]
theorem sc_AddWriter_turned : FnScope n_AddWriter_turned ["self", "byte"] (defScope s_AddWriter_turned) := ⟨rfl, rfl, rfl, by decide +kernel, rfl, by decide +kernel, by decide +kernel⟩
abbrev n_AddWriter_take : List Str := ["self", "byte", "found"]
theorem sc_AddWriter_take : FnScope n_AddWriter_take ["self", "byte"] (defScope s_AddWriter_take) := ⟨rfl, rfl, rfl, by decide +kernel, rfl, by decide +kernel, by decide +kernel⟩
abbrev n_AddWriter_end : List Str := ["self"]
theorem sc_AddWriter_end : FnScope n_AddWriter_end ["self"] (defScope s_AddWriter_end) := ⟨rfl, rfl, rfl, by decide +kernel, rfl, by decide +kernel, by decide +kernel⟩
abbrev n_AddReader_turned : List Str := ["self", "byte"]
theorem sc_AddReader_turned : FnScope n_AddReader_turned ["self", "byte"] (defScope s_AddReader_turned) := ⟨rfl, rfl, rfl, by decide +kernel, rfl, by decide +kernel, by decide +kernel⟩
abbrev n_FrontWriter_init : List Str := ["self"]
theorem sc_FrontWriter_init : FnScope n_FrontWriter_init ["self"] (defScope s_FrontWriter_init) := ⟨rfl, rfl, rfl, by decide +kernel, rfl, by decide +kernel, by decide +kernel⟩
abbrev n_FrontWriter_to_front : List Str := ["self", "place", "byte"]
theorem sc_FrontWriter_to_front : FnScope n_FrontWriter_to_front ["self", "place"] (defScope s_FrontWriter_to_front) := ⟨rfl, rfl, rfl, by decide +kernel, rfl, by decide +kernel, by decide +kernel⟩
abbrev n_FrontWriter_take : List Str := ["self", "byte", "place"]
theorem sc_FrontWriter_take : FnScope n_FrontWriter_take ["self", "byte"] (defScope s_FrontWriter_take) := ⟨rfl, rfl, rfl, by decide +kernel, rfl, by decide +kernel, by decide +kernel⟩
abbrev n_FrontWriter_end : List Str := ["self"]
theorem sc_FrontWriter_end : FnScope n_FrontWriter_end ["self"] (defScope s_FrontWriter_end) := ⟨rfl, rfl, rfl, by decide +kernel, rfl, by decide +kernel, by decide +kernel⟩
abbrev n_FrontReader_take : List Str := ["self", "byte"]
theorem sc_FrontReader_take : FnScope n_FrontReader_take ["self", "byte"] (defScope s_FrontReader_take) := ⟨rfl, rfl, rfl, by decide +kernel, rfl, by decide +kernel, by decide +kernel⟩
abbrev n_Writer_init : List Str := ["self", "layers", "layer"]
theorem sc_Writer_init : FnScope n_Writer_init ["self", "layers"] (defScope s_Writer_init) := ⟨rfl, rfl, rfl, by decide +kernel, rfl, by decide +kernel, by decide +kernel⟩
abbrev n_Writer_take : List Str := ["self", "row"]
theorem sc_Writer_take : FnScope n_Writer_take ["self", "row"] (defScope s_Writer_take) := ⟨rfl, rfl, rfl, by decide +kernel, rfl, by decide +kernel, by decide +kernel⟩
abbrev n_Writer_end : List Str := ["self", "found", "k"]
theorem sc_Writer_end : FnScope n_Writer_end ["self"] (defScope s_Writer_end) := ⟨rfl, rfl, rfl, by decide +kernel, rfl, by decide +kernel, by decide +kernel⟩
abbrev n_Reader_init : List Str := ["self", "layers", "layer"]
theorem sc_Reader_init : FnScope n_Reader_init ["self", "layers"] (defScope s_Reader_init) := ⟨rfl, rfl, rfl, by decide +kernel, rfl, by decide +kernel, by decide +kernel⟩
abbrev n_Reader_one : List Str := ["self", "at", "byte", "row", "e", "found", "inner"]
theorem sc_Reader_one : FnScope n_Reader_one ["self", "at", "byte"] (defScope s_Reader_one) := ⟨rfl, rfl, rfl, by decide +kernel, rfl, by decide +kernel, by decide +kernel⟩
abbrev n_Reader_take : List Str := ["self", "row", "found", "byte"]
theorem sc_Reader_take : FnScope n_Reader_take ["self", "row"] (defScope s_Reader_take) := ⟨rfl, rfl, rfl, by decide +kernel, rfl, by decide +kernel, by decide +kernel⟩
abbrev n_Reader_end : List Str := ["self", "found", "at"]
theorem sc_Reader_end : FnScope n_Reader_end ["self"] (defScope s_Reader_end) := ⟨rfl, rfl, rfl, by decide +kernel, rfl, by decide +kernel, by decide +kernel⟩
abbrev n_Reader_closing : List Str := ["self", "at", "row", "e", "found", "inner"]
theorem sc_Reader_closing : FnScope n_Reader_closing ["self", "at"] (defScope s_Reader_closing) := ⟨rfl, rfl, rfl, by decide +kernel, rfl, by decide +kernel, by decide +kernel⟩
def fa : List He.Fa := [.glo "checked",
  .glo "check_bytes",
  .glo "look_layer",
  .glo "look_layers",
  .glo "writer_of",
  .glo "reader_of",
  .glo "through",
  .glo "written",
  .glo "read",
  .glo "_law_cell",
  .glo "_law_mix",
  .glo "_law_whole",
  .glo "_law_layer",
  .glo "_law_layers",
  .glo "_law_row",
  .glo "_law_cuts",
  .glo "_law_spoilt",
  .glo "law",
  .free "len",
  .free "range",
  .free "list",
  .free "tuple",
  .free "all",
  .free "max",
  .free "reversed",
  .free "isinstance",
  .free "int",
  .free "bool",
  .free "ValueError",
  .glo "ChunksWriter",
  .cls "ChunksWriter",
  .mkr "ChunksWriter",
  .noat "ChunksWriter" "size",
  .noat "ChunksWriter" "held",
  .meth "ChunksWriter" "__init__",
  .meth "ChunksWriter" "take",
  .meth "ChunksWriter" "end",
  .glo "ChunksReader",
  .cls "ChunksReader",
  .mkr "ChunksReader",
  .noat "ChunksReader" "size",
  .noat "ChunksReader" "done",
  .noat "ChunksReader" "left",
  .noat "ChunksReader" "is_last",
  .meth "ChunksReader" "__init__",
  .meth "ChunksReader" "take",
  .meth "ChunksReader" "end",
  .glo "ChecksWriter",
  .cls "ChecksWriter",
  .mkr "ChecksWriter",
  .noat "ChecksWriter" "size",
  .noat "ChecksWriter" "many",
  .noat "ChecksWriter" "check",
  .meth "ChecksWriter" "__init__",
  .meth "ChecksWriter" "take",
  .meth "ChecksWriter" "end",
  .glo "ChecksReader",
  .cls "ChecksReader",
  .mkr "ChecksReader",
  .noat "ChecksReader" "size",
  .noat "ChecksReader" "done",
  .noat "ChecksReader" "check",
  .noat "ChecksReader" "held",
  .meth "ChecksReader" "__init__",
  .meth "ChecksReader" "block",
  .meth "ChecksReader" "take",
  .meth "ChecksReader" "end",
  .glo "EscapeWriter",
  .cls "EscapeWriter",
  .mkr "EscapeWriter",
  .noat "EscapeWriter" "marks",
  .meth "EscapeWriter" "__init__",
  .meth "EscapeWriter" "take",
  .meth "EscapeWriter" "end",
  .glo "EscapeReader",
  .cls "EscapeReader",
  .mkr "EscapeReader",
  .noat "EscapeReader" "marks",
  .noat "EscapeReader" "done",
  .noat "EscapeReader" "marked",
  .meth "EscapeReader" "__init__",
  .meth "EscapeReader" "take",
  .meth "EscapeReader" "end",
  .glo "RunsWriter",
  .cls "RunsWriter",
  .mkr "RunsWriter",
  .noat "RunsWriter" "many",
  .noat "RunsWriter" "byte",
  .meth "RunsWriter" "__init__",
  .meth "RunsWriter" "take",
  .meth "RunsWriter" "end",
  .glo "RunsReader",
  .cls "RunsReader",
  .mkr "RunsReader",
  .noat "RunsReader" "done",
  .noat "RunsReader" "many",
  .noat "RunsReader" "last",
  .meth "RunsReader" "__init__",
  .meth "RunsReader" "take",
  .meth "RunsReader" "end",
  .glo "SignsWriter",
  .cls "SignsWriter",
  .mkr "SignsWriter",
  .noat "SignsWriter" "many",
  .noat "SignsWriter" "value",
  .meth "SignsWriter" "__init__",
  .meth "SignsWriter" "take",
  .meth "SignsWriter" "end",
  .glo "SignsReader",
  .cls "SignsReader",
  .mkr "SignsReader",
  .noat "SignsReader" "done",
  .noat "SignsReader" "many",
  .noat "SignsReader" "value",
  .meth "SignsReader" "__init__",
  .meth "SignsReader" "take",
  .meth "SignsReader" "end",
  .glo "AddWriter",
  .cls "AddWriter",
  .mkr "AddWriter",
  .noat "AddWriter" "key",
  .noat "AddWriter" "at",
  .meth "AddWriter" "__init__",
  .meth "AddWriter" "turned",
  .meth "AddWriter" "take",
  .meth "AddWriter" "end",
  .glo "AddReader",
  .cls "AddReader",
  .mkr "AddReader",
  .noat "AddReader" "key",
  .noat "AddReader" "at",
  .meth "AddReader" "turned",
  .meth "AddReader" "__init__",
  .meth "AddReader" "take",
  .meth "AddReader" "end",
  .glo "FrontWriter",
  .cls "FrontWriter",
  .mkr "FrontWriter",
  .noat "FrontWriter" "row",
  .meth "FrontWriter" "__init__",
  .meth "FrontWriter" "to_front",
  .meth "FrontWriter" "take",
  .meth "FrontWriter" "end",
  .glo "FrontReader",
  .cls "FrontReader",
  .mkr "FrontReader",
  .noat "FrontReader" "row",
  .meth "FrontReader" "take",
  .meth "FrontReader" "__init__",
  .meth "FrontReader" "to_front",
  .meth "FrontReader" "end",
  .glo "Writer",
  .cls "Writer",
  .mkr "Writer",
  .noat "Writer" "parts",
  .meth "Writer" "__init__",
  .meth "Writer" "take",
  .meth "Writer" "end",
  .glo "Reader",
  .cls "Reader",
  .mkr "Reader",
  .noat "Reader" "parts",
  .noat "Reader" "fault",
  .meth "Reader" "__init__",
  .meth "Reader" "one",
  .meth "Reader" "take",
  .meth "Reader" "end",
  .meth "Reader" "closing",
  .glo "FlowError",
  .glo "BadLayer",
  .exc "BadLayer",
  .glo "Wrong",
  .noat "Wrong" "place",
  .meth "Wrong" "__init__",
  .glo "Cut",
  .exc "Cut",
  .exm "Wrong" "Wrong" true,
  .exm "Cut" "Wrong" false,
  .exm "Cut" "Cut" true,
  .exm "BadLayer" "FlowError" true,
  .int "PRIME" 65521,
  .int "FACTOR" 257,
  .int "LONGEST" 255,
  .glo "POWERS",
  .glo "SIGNS",
  .int "MOST" 8]
def d0 : He.DefD := ⟨("checked", none), "checked", "checked", defArgs s_checked, defBody s_checked, defScope s_checked, [], []⟩
def d1 : He.DefD := ⟨("check_bytes", none), "check_bytes", "check_bytes", defArgs s_check_bytes, defBody s_check_bytes, defScope s_check_bytes, [], []⟩
def d2 : He.DefD := ⟨("look_layer", none), "look_layer", "look_layer", defArgs s_look_layer, defBody s_look_layer, defScope s_look_layer, [], []⟩
def d3 : He.DefD := ⟨("look_layers", none), "look_layers", "look_layers", defArgs s_look_layers, defBody s_look_layers, defScope s_look_layers, [], []⟩
def d4 : He.DefD := ⟨("writer_of", none), "writer_of", "writer_of", defArgs s_writer_of, defBody s_writer_of, defScope s_writer_of, [], []⟩
def d5 : He.DefD := ⟨("reader_of", none), "reader_of", "reader_of", defArgs s_reader_of, defBody s_reader_of, defScope s_reader_of, [], []⟩
def d6 : He.DefD := ⟨("through", none), "through", "through", defArgs s_through, defBody s_through, defScope s_through, [], []⟩
def d7 : He.DefD := ⟨("written", none), "written", "written", defArgs s_written, defBody s_written, defScope s_written, [], []⟩
def d8 : He.DefD := ⟨("read", none), "read", "read", defArgs s_read, defBody s_read, defScope s_read, [], []⟩
def d9 : He.DefD := ⟨("_law_cell", none), "_law_cell", "_law_cell", defArgs s_law_cell, defBody s_law_cell, defScope s_law_cell, [], []⟩
def d10 : He.DefD := ⟨("_law_mix", none), "_law_mix", "_law_mix", defArgs s_law_mix, defBody s_law_mix, defScope s_law_mix, [], []⟩
def d11 : He.DefD := ⟨("_law_whole", none), "_law_whole", "_law_whole", defArgs s_law_whole, defBody s_law_whole, defScope s_law_whole, [], []⟩
def d12 : He.DefD := ⟨("_law_layer", none), "_law_layer", "_law_layer", defArgs s_law_layer, defBody s_law_layer, defScope s_law_layer, [], []⟩
def d13 : He.DefD := ⟨("_law_layers", none), "_law_layers", "_law_layers", defArgs s_law_layers, defBody s_law_layers, defScope s_law_layers, [], []⟩
def d14 : He.DefD := ⟨("_law_row", none), "_law_row", "_law_row", defArgs s_law_row, defBody s_law_row, defScope s_law_row, [], []⟩
def d15 : He.DefD := ⟨("_law_cuts", none), "_law_cuts", "_law_cuts", defArgs s_law_cuts, defBody s_law_cuts, defScope s_law_cuts, [], []⟩
def d16 : He.DefD := ⟨("_law_spoilt", none), "_law_spoilt", "_law_spoilt", defArgs s_law_spoilt, defBody s_law_spoilt, defScope s_law_spoilt, [], []⟩
def d17 : He.DefD := ⟨("law", none), "law", "law", defArgs s_law, defBody s_law, defScope s_law, [], []⟩
def d18 : He.DefD := ⟨("ChunksWriter", some "__init__"), "__init__", "ChunksWriter.__init__", defArgs s_ChunksWriter_init, defBody s_ChunksWriter_init, defScope s_ChunksWriter_init, [], []⟩
def d19 : He.DefD := ⟨("ChunksWriter", some "take"), "take", "ChunksWriter.take", defArgs s_ChunksWriter_take, defBody s_ChunksWriter_take, defScope s_ChunksWriter_take, [], []⟩
def d20 : He.DefD := ⟨("ChunksWriter", some "end"), "end", "ChunksWriter.end", defArgs s_ChunksWriter_end, defBody s_ChunksWriter_end, defScope s_ChunksWriter_end, [], []⟩
def d21 : He.DefD := ⟨("ChunksReader", some "__init__"), "__init__", "ChunksReader.__init__", defArgs s_ChunksReader_init, defBody s_ChunksReader_init, defScope s_ChunksReader_init, [], []⟩
def d22 : He.DefD := ⟨("ChunksReader", some "take"), "take", "ChunksReader.take", defArgs s_ChunksReader_take, defBody s_ChunksReader_take, defScope s_ChunksReader_take, [], []⟩
def d23 : He.DefD := ⟨("ChunksReader", some "end"), "end", "ChunksReader.end", defArgs s_ChunksReader_end, defBody s_ChunksReader_end, defScope s_ChunksReader_end, [], []⟩
def d24 : He.DefD := ⟨("ChecksWriter", some "__init__"), "__init__", "ChecksWriter.__init__", defArgs s_ChecksWriter_init, defBody s_ChecksWriter_init, defScope s_ChecksWriter_init, [], []⟩
def d25 : He.DefD := ⟨("ChecksWriter", some "take"), "take", "ChecksWriter.take", defArgs s_ChecksWriter_take, defBody s_ChecksWriter_take, defScope s_ChecksWriter_take, [], []⟩
def d26 : He.DefD := ⟨("ChecksWriter", some "end"), "end", "ChecksWriter.end", defArgs s_ChecksWriter_end, defBody s_ChecksWriter_end, defScope s_ChecksWriter_end, [], []⟩
def d27 : He.DefD := ⟨("ChecksReader", some "__init__"), "__init__", "ChecksReader.__init__", defArgs s_ChecksReader_init, defBody s_ChecksReader_init, defScope s_ChecksReader_init, [], []⟩
def d28 : He.DefD := ⟨("ChecksReader", some "block"), "block", "ChecksReader.block", defArgs s_ChecksReader_block, defBody s_ChecksReader_block, defScope s_ChecksReader_block, [], []⟩
def d29 : He.DefD := ⟨("ChecksReader", some "take"), "take", "ChecksReader.take", defArgs s_ChecksReader_take, defBody s_ChecksReader_take, defScope s_ChecksReader_take, [], []⟩
def d30 : He.DefD := ⟨("ChecksReader", some "end"), "end", "ChecksReader.end", defArgs s_ChecksReader_end, defBody s_ChecksReader_end, defScope s_ChecksReader_end, [], []⟩
def d31 : He.DefD := ⟨("EscapeWriter", some "__init__"), "__init__", "EscapeWriter.__init__", defArgs s_EscapeWriter_init, defBody s_EscapeWriter_init, defScope s_EscapeWriter_init, [], []⟩
def d32 : He.DefD := ⟨("EscapeWriter", some "take"), "take", "EscapeWriter.take", defArgs s_EscapeWriter_take, defBody s_EscapeWriter_take, defScope s_EscapeWriter_take, [], []⟩
def d33 : He.DefD := ⟨("EscapeWriter", some "end"), "end", "EscapeWriter.end", defArgs s_EscapeWriter_end, defBody s_EscapeWriter_end, defScope s_EscapeWriter_end, [], []⟩
def d34 : He.DefD := ⟨("EscapeReader", some "__init__"), "__init__", "EscapeReader.__init__", defArgs s_EscapeReader_init, defBody s_EscapeReader_init, defScope s_EscapeReader_init, [], []⟩
def d35 : He.DefD := ⟨("EscapeReader", some "take"), "take", "EscapeReader.take", defArgs s_EscapeReader_take, defBody s_EscapeReader_take, defScope s_EscapeReader_take, [], []⟩
def d36 : He.DefD := ⟨("EscapeReader", some "end"), "end", "EscapeReader.end", defArgs s_EscapeReader_end, defBody s_EscapeReader_end, defScope s_EscapeReader_end, [], []⟩
def d37 : He.DefD := ⟨("RunsWriter", some "__init__"), "__init__", "RunsWriter.__init__", defArgs s_RunsWriter_init, defBody s_RunsWriter_init, defScope s_RunsWriter_init, [], []⟩
def d38 : He.DefD := ⟨("RunsWriter", some "take"), "take", "RunsWriter.take", defArgs s_RunsWriter_take, defBody s_RunsWriter_take, defScope s_RunsWriter_take, [], []⟩
def d39 : He.DefD := ⟨("RunsWriter", some "end"), "end", "RunsWriter.end", defArgs s_RunsWriter_end, defBody s_RunsWriter_end, defScope s_RunsWriter_end, [], []⟩
def d40 : He.DefD := ⟨("RunsReader", some "__init__"), "__init__", "RunsReader.__init__", defArgs s_RunsReader_init, defBody s_RunsReader_init, defScope s_RunsReader_init, [], []⟩
def d41 : He.DefD := ⟨("RunsReader", some "take"), "take", "RunsReader.take", defArgs s_RunsReader_take, defBody s_RunsReader_take, defScope s_RunsReader_take, [], []⟩
def d42 : He.DefD := ⟨("RunsReader", some "end"), "end", "RunsReader.end", defArgs s_RunsReader_end, defBody s_RunsReader_end, defScope s_RunsReader_end, [], []⟩
def d43 : He.DefD := ⟨("SignsWriter", some "__init__"), "__init__", "SignsWriter.__init__", defArgs s_SignsWriter_init, defBody s_SignsWriter_init, defScope s_SignsWriter_init, [], []⟩
def d44 : He.DefD := ⟨("SignsWriter", some "take"), "take", "SignsWriter.take", defArgs s_SignsWriter_take, defBody s_SignsWriter_take, defScope s_SignsWriter_take, [], []⟩
def d45 : He.DefD := ⟨("SignsWriter", some "end"), "end", "SignsWriter.end", defArgs s_SignsWriter_end, defBody s_SignsWriter_end, defScope s_SignsWriter_end, [], []⟩
def d46 : He.DefD := ⟨("SignsReader", some "__init__"), "__init__", "SignsReader.__init__", defArgs s_SignsReader_init, defBody s_SignsReader_init, defScope s_SignsReader_init, [], []⟩
def d47 : He.DefD := ⟨("SignsReader", some "take"), "take", "SignsReader.take", defArgs s_SignsReader_take, defBody s_SignsReader_take, defScope s_SignsReader_take, [], []⟩
def d48 : He.DefD := ⟨("SignsReader", some "end"), "end", "SignsReader.end", defArgs s_SignsReader_end, defBody s_SignsReader_end, defScope s_SignsReader_end, [], []⟩
def d49 : He.DefD := ⟨("AddWriter", some "__init__"), "__init__", "AddWriter.__init__", defArgs s_AddWriter_init, defBody s_AddWriter_init, defScope s_AddWriter_init, [], []⟩
def d50 : He.DefD := ⟨("AddWriter", some "turned"), "turned", "AddWriter.turned", defArgs s_AddWriter_turned, defBody s_AddWriter_turned, defScope s_AddWriter_turned, [], []⟩
def d51 : He.DefD := ⟨("AddWriter", some "take"), "take", "AddWriter.take", defArgs s_AddWriter_take, defBody s_AddWriter_take, defScope s_AddWriter_take, [], []⟩
def d52 : He.DefD := ⟨("AddWriter", some "end"), "end", "AddWriter.end", defArgs s_AddWriter_end, defBody s_AddWriter_end, defScope s_AddWriter_end, [], []⟩
def d53 : He.DefD := ⟨("AddReader", some "turned"), "turned", "AddReader.turned", defArgs s_AddReader_turned, defBody s_AddReader_turned, defScope s_AddReader_turned, [], []⟩
def d54 : He.DefD := ⟨("AddReader", some "__init__"), "__init__", "AddWriter.__init__", defArgs s_AddWriter_init, defBody s_AddWriter_init, defScope s_AddWriter_init, [], []⟩
def d55 : He.DefD := ⟨("AddReader", some "take"), "take", "AddWriter.take", defArgs s_AddWriter_take, defBody s_AddWriter_take, defScope s_AddWriter_take, [], []⟩
def d56 : He.DefD := ⟨("AddReader", some "end"), "end", "AddWriter.end", defArgs s_AddWriter_end, defBody s_AddWriter_end, defScope s_AddWriter_end, [], []⟩
def d57 : He.DefD := ⟨("FrontWriter", some "__init__"), "__init__", "FrontWriter.__init__", defArgs s_FrontWriter_init, defBody s_FrontWriter_init, defScope s_FrontWriter_init, [], []⟩
def d58 : He.DefD := ⟨("FrontWriter", some "to_front"), "to_front", "FrontWriter.to_front", defArgs s_FrontWriter_to_front, defBody s_FrontWriter_to_front, defScope s_FrontWriter_to_front, [], []⟩
def d59 : He.DefD := ⟨("FrontWriter", some "take"), "take", "FrontWriter.take", defArgs s_FrontWriter_take, defBody s_FrontWriter_take, defScope s_FrontWriter_take, [], []⟩
def d60 : He.DefD := ⟨("FrontWriter", some "end"), "end", "FrontWriter.end", defArgs s_FrontWriter_end, defBody s_FrontWriter_end, defScope s_FrontWriter_end, [], []⟩
def d61 : He.DefD := ⟨("FrontReader", some "take"), "take", "FrontReader.take", defArgs s_FrontReader_take, defBody s_FrontReader_take, defScope s_FrontReader_take, [], []⟩
def d62 : He.DefD := ⟨("FrontReader", some "__init__"), "__init__", "FrontWriter.__init__", defArgs s_FrontWriter_init, defBody s_FrontWriter_init, defScope s_FrontWriter_init, [], []⟩
def d63 : He.DefD := ⟨("FrontReader", some "to_front"), "to_front", "FrontWriter.to_front", defArgs s_FrontWriter_to_front, defBody s_FrontWriter_to_front, defScope s_FrontWriter_to_front, [], []⟩
def d64 : He.DefD := ⟨("FrontReader", some "end"), "end", "FrontWriter.end", defArgs s_FrontWriter_end, defBody s_FrontWriter_end, defScope s_FrontWriter_end, [], []⟩
def d65 : He.DefD := ⟨("Writer", some "__init__"), "__init__", "Writer.__init__", defArgs s_Writer_init, defBody s_Writer_init, defScope s_Writer_init, [], []⟩
def d66 : He.DefD := ⟨("Writer", some "take"), "take", "Writer.take", defArgs s_Writer_take, defBody s_Writer_take, defScope s_Writer_take, [], []⟩
def d67 : He.DefD := ⟨("Writer", some "end"), "end", "Writer.end", defArgs s_Writer_end, defBody s_Writer_end, defScope s_Writer_end, [], []⟩
def d68 : He.DefD := ⟨("Reader", some "__init__"), "__init__", "Reader.__init__", defArgs s_Reader_init, defBody s_Reader_init, defScope s_Reader_init, [], []⟩
def d69 : He.DefD := ⟨("Reader", some "one"), "one", "Reader.one", defArgs s_Reader_one, defBody s_Reader_one, defScope s_Reader_one, [], []⟩
def d70 : He.DefD := ⟨("Reader", some "take"), "take", "Reader.take", defArgs s_Reader_take, defBody s_Reader_take, defScope s_Reader_take, [], []⟩
def d71 : He.DefD := ⟨("Reader", some "end"), "end", "Reader.end", defArgs s_Reader_end, defBody s_Reader_end, defScope s_Reader_end, [], []⟩
def d72 : He.DefD := ⟨("Reader", some "closing"), "closing", "Reader.closing", defArgs s_Reader_closing, defBody s_Reader_closing, defScope s_Reader_closing, [], []⟩
def d73 : He.DefD := ⟨("Wrong", some "__init__"), "__init__", "Wrong.__init__", defArgs s_Wrong_init, defBody s_Wrong_init, defScope s_Wrong_init, [], []⟩
def fn : List He.DefD := [d0, d1, d2, d3, d4, d5, d6, d7, d8, d9, d10, d11, d12, d13, d14, d15, d16, d17, d18, d19, d20, d21, d22, d23, d24, d25, d26, d27, d28, d29, d30, d31, d32, d33, d34, d35, d36, d37, d38, d39, d40, d41, d42, d43, d44, d45, d46, d47, d48, d49, d50, d51, d52, d53, d54, d55, d56, d57, d58, d59, d60, d61, d62, d63, d64, d65, d66, d67, d68, d69, d70, d71, d72, d73]
def exB (K : PySem.W.Frag) : Bool := (oexB K (He.ga K "Wrong") && (xfB K (He.ga K "Wrong") && (He.tupB K "POWERS" (powersT.map He.Dv.int) && (tupNB K "SIGNS" && He.tupB K "SIGNS" (signsT.map He.Dv.int)))))
/-- what the head tells -/
structure Tx (K : PySem.W.Frag) (mg : Str → Option Value) : Prop where
  says : He.SaysD fa fn K
  more : exB K = true
  at_ : ∃ h, K.In h ∧ h.Ns mainGlobals mg
section
variable {K : PySem.W.Frag} {mg : Str → Option Value}
theorem dvInts (l : List Int) : ((l.map He.Dv.int).map (He.Dv.v K)) = l.map V.int := by rw [List.map_map]; rfl
theorem Tx.glo (T : Tx K mg) {x : Str} (c : (He.Fa.glo x).ok K = true) : mg x = some (.ref (He.ga K x)) := by
  obtain ⟨h, X, G⟩ := T.at_
  exact He.glo_ok X G c
theorem Tx.free (T : Tx K mg) {x : Str} (c : (He.Fa.free x).ok K = true) : mg x = none := by
  obtain ⟨h, X, G⟩ := T.at_
  exact He.free_ok X G c
theorem Tx.int (T : Tx K mg) {x : Str} {i : Int} (c : (He.Fa.int x i).ok K = true) : ∃ t, mg x = some (.int i t) := by
  obtain ⟨h, X, G⟩ := T.at_
  exact He.int_ok X G c
theorem fnT {C f : Addr} {m : Str} (M : Meth K C m f) : PySem.W.typeIn K (.ref f) = some (.type "function") := beq_iff_eq.mp M.fn
theorem g_checked (T : Tx K mg) : mg "checked" = some (.ref (He.ga K "checked")) := T.glo (T.says.fact 0 (f := .glo "checked") rfl)
theorem fn_checked (T : Tx K mg) : ∃ fd, FunD K "checked" "checked" (defArgs s_checked) (defBody s_checked) (defScope s_checked) [] [] (He.ga K "checked") fd := T.says.def_ 0 (d := d0) rfl
theorem g_check_bytes (T : Tx K mg) : mg "check_bytes" = some (.ref (He.ga K "check_bytes")) := T.glo (T.says.fact 1 (f := .glo "check_bytes") rfl)
theorem fn_check_bytes (T : Tx K mg) : ∃ fd, FunD K "check_bytes" "check_bytes" (defArgs s_check_bytes) (defBody s_check_bytes) (defScope s_check_bytes) [] [] (He.ga K "check_bytes") fd := T.says.def_ 1 (d := d1) rfl
theorem g_look_layer (T : Tx K mg) : mg "look_layer" = some (.ref (He.ga K "look_layer")) := T.glo (T.says.fact 2 (f := .glo "look_layer") rfl)
theorem fn_look_layer (T : Tx K mg) : ∃ fd, FunD K "look_layer" "look_layer" (defArgs s_look_layer) (defBody s_look_layer) (defScope s_look_layer) [] [] (He.ga K "look_layer") fd := T.says.def_ 2 (d := d2) rfl
theorem g_look_layers (T : Tx K mg) : mg "look_layers" = some (.ref (He.ga K "look_layers")) := T.glo (T.says.fact 3 (f := .glo "look_layers") rfl)
theorem fn_look_layers (T : Tx K mg) : ∃ fd, FunD K "look_layers" "look_layers" (defArgs s_look_layers) (defBody s_look_layers) (defScope s_look_layers) [] [] (He.ga K "look_layers") fd := T.says.def_ 3 (d := d3) rfl
theorem g_writer_of (T : Tx K mg) : mg "writer_of" = some (.ref (He.ga K "writer_of")) := T.glo (T.says.fact 4 (f := .glo "writer_of") rfl)
theorem fn_writer_of (T : Tx K mg) : ∃ fd, FunD K "writer_of" "writer_of" (defArgs s_writer_of) (defBody s_writer_of) (defScope s_writer_of) [] [] (He.ga K "writer_of") fd := T.says.def_ 4 (d := d4) rfl
theorem g_reader_of (T : Tx K mg) : mg "reader_of" = some (.ref (He.ga K "reader_of")) := T.glo (T.says.fact 5 (f := .glo "reader_of") rfl)
theorem fn_reader_of (T : Tx K mg) : ∃ fd, FunD K "reader_of" "reader_of" (defArgs s_reader_of) (defBody s_reader_of) (defScope s_reader_of) [] [] (He.ga K "reader_of") fd := T.says.def_ 5 (d := d5) rfl
theorem g_through (T : Tx K mg) : mg "through" = some (.ref (He.ga K "through")) := T.glo (T.says.fact 6 (f := .glo "through") rfl)
theorem fn_through (T : Tx K mg) : ∃ fd, FunD K "through" "through" (defArgs s_through) (defBody s_through) (defScope s_through) [] [] (He.ga K "through") fd := T.says.def_ 6 (d := d6) rfl
theorem g_written (T : Tx K mg) : mg "written" = some (.ref (He.ga K "written")) := T.glo (T.says.fact 7 (f := .glo "written") rfl)
theorem fn_written (T : Tx K mg) : ∃ fd, FunD K "written" "written" (defArgs s_written) (defBody s_written) (defScope s_written) [] [] (He.ga K "written") fd := T.says.def_ 7 (d := d7) rfl
theorem g_read (T : Tx K mg) : mg "read" = some (.ref (He.ga K "read")) := T.glo (T.says.fact 8 (f := .glo "read") rfl)
theorem fn_read (T : Tx K mg) : ∃ fd, FunD K "read" "read" (defArgs s_read) (defBody s_read) (defScope s_read) [] [] (He.ga K "read") fd := T.says.def_ 8 (d := d8) rfl
theorem g_law_cell (T : Tx K mg) : mg "_law_cell" = some (.ref (He.ga K "_law_cell")) := T.glo (T.says.fact 9 (f := .glo "_law_cell") rfl)
theorem fn_law_cell (T : Tx K mg) : ∃ fd, FunD K "_law_cell" "_law_cell" (defArgs s_law_cell) (defBody s_law_cell) (defScope s_law_cell) [] [] (He.ga K "_law_cell") fd := T.says.def_ 9 (d := d9) rfl
theorem g_law_mix (T : Tx K mg) : mg "_law_mix" = some (.ref (He.ga K "_law_mix")) := T.glo (T.says.fact 10 (f := .glo "_law_mix") rfl)
theorem fn_law_mix (T : Tx K mg) : ∃ fd, FunD K "_law_mix" "_law_mix" (defArgs s_law_mix) (defBody s_law_mix) (defScope s_law_mix) [] [] (He.ga K "_law_mix") fd := T.says.def_ 10 (d := d10) rfl
theorem g_law_whole (T : Tx K mg) : mg "_law_whole" = some (.ref (He.ga K "_law_whole")) := T.glo (T.says.fact 11 (f := .glo "_law_whole") rfl)
theorem fn_law_whole (T : Tx K mg) : ∃ fd, FunD K "_law_whole" "_law_whole" (defArgs s_law_whole) (defBody s_law_whole) (defScope s_law_whole) [] [] (He.ga K "_law_whole") fd := T.says.def_ 11 (d := d11) rfl
theorem g_law_layer (T : Tx K mg) : mg "_law_layer" = some (.ref (He.ga K "_law_layer")) := T.glo (T.says.fact 12 (f := .glo "_law_layer") rfl)
theorem fn_law_layer (T : Tx K mg) : ∃ fd, FunD K "_law_layer" "_law_layer" (defArgs s_law_layer) (defBody s_law_layer) (defScope s_law_layer) [] [] (He.ga K "_law_layer") fd := T.says.def_ 12 (d := d12) rfl
theorem g_law_layers (T : Tx K mg) : mg "_law_layers" = some (.ref (He.ga K "_law_layers")) := T.glo (T.says.fact 13 (f := .glo "_law_layers") rfl)
theorem fn_law_layers (T : Tx K mg) : ∃ fd, FunD K "_law_layers" "_law_layers" (defArgs s_law_layers) (defBody s_law_layers) (defScope s_law_layers) [] [] (He.ga K "_law_layers") fd := T.says.def_ 13 (d := d13) rfl
theorem g_law_row (T : Tx K mg) : mg "_law_row" = some (.ref (He.ga K "_law_row")) := T.glo (T.says.fact 14 (f := .glo "_law_row") rfl)
theorem fn_law_row (T : Tx K mg) : ∃ fd, FunD K "_law_row" "_law_row" (defArgs s_law_row) (defBody s_law_row) (defScope s_law_row) [] [] (He.ga K "_law_row") fd := T.says.def_ 14 (d := d14) rfl
theorem g_law_cuts (T : Tx K mg) : mg "_law_cuts" = some (.ref (He.ga K "_law_cuts")) := T.glo (T.says.fact 15 (f := .glo "_law_cuts") rfl)
theorem fn_law_cuts (T : Tx K mg) : ∃ fd, FunD K "_law_cuts" "_law_cuts" (defArgs s_law_cuts) (defBody s_law_cuts) (defScope s_law_cuts) [] [] (He.ga K "_law_cuts") fd := T.says.def_ 15 (d := d15) rfl
theorem g_law_spoilt (T : Tx K mg) : mg "_law_spoilt" = some (.ref (He.ga K "_law_spoilt")) := T.glo (T.says.fact 16 (f := .glo "_law_spoilt") rfl)
theorem fn_law_spoilt (T : Tx K mg) : ∃ fd, FunD K "_law_spoilt" "_law_spoilt" (defArgs s_law_spoilt) (defBody s_law_spoilt) (defScope s_law_spoilt) [] [] (He.ga K "_law_spoilt") fd := T.says.def_ 16 (d := d16) rfl
theorem g_law (T : Tx K mg) : mg "law" = some (.ref (He.ga K "law")) := T.glo (T.says.fact 17 (f := .glo "law") rfl)
theorem fn_law (T : Tx K mg) : ∃ fd, FunD K "law" "law" (defArgs s_law) (defBody s_law) (defScope s_law) [] [] (He.ga K "law") fd := T.says.def_ 17 (d := d17) rfl
theorem f_len (T : Tx K mg) : mg "len" = none := T.free (T.says.fact 18 (f := .free "len") rfl)
theorem f_range (T : Tx K mg) : mg "range" = none := T.free (T.says.fact 19 (f := .free "range") rfl)
theorem f_list (T : Tx K mg) : mg "list" = none := T.free (T.says.fact 20 (f := .free "list") rfl)
theorem f_tuple (T : Tx K mg) : mg "tuple" = none := T.free (T.says.fact 21 (f := .free "tuple") rfl)
theorem f_all (T : Tx K mg) : mg "all" = none := T.free (T.says.fact 22 (f := .free "all") rfl)
theorem f_max (T : Tx K mg) : mg "max" = none := T.free (T.says.fact 23 (f := .free "max") rfl)
theorem f_reversed (T : Tx K mg) : mg "reversed" = none := T.free (T.says.fact 24 (f := .free "reversed") rfl)
theorem f_isinstance (T : Tx K mg) : mg "isinstance" = none := T.free (T.says.fact 25 (f := .free "isinstance") rfl)
theorem f_int (T : Tx K mg) : mg "int" = none := T.free (T.says.fact 26 (f := .free "int") rfl)
theorem f_bool (T : Tx K mg) : mg "bool" = none := T.free (T.says.fact 27 (f := .free "bool") rfl)
theorem f_ValueError (T : Tx K mg) : mg "ValueError" = none := T.free (T.says.fact 28 (f := .free "ValueError") rfl)
theorem g_ChunksWriter (T : Tx K mg) : mg "ChunksWriter" = some (.ref (He.ga K "ChunksWriter")) := T.glo (T.says.fact 29 (f := .glo "ChunksWriter") rfl)
theorem cl_ChunksWriter (T : Tx K mg) : Cls K (He.ga K "ChunksWriter") := He.cls_ok (T.says.fact 30 (f := .cls "ChunksWriter") rfl)
theorem mk_ChunksWriter (T : Tx K mg) : Mk K (He.ga K "ChunksWriter") (He.ma K (He.ga K "ChunksWriter") "__init__") := He.mkr_ok (T.says.fact 31 (f := .mkr "ChunksWriter") rfl)
theorem no_ChunksWriter_size (T : Tx K mg) : NoAttr K (He.ga K "ChunksWriter") "size" := He.noat_ok (T.says.fact 32 (f := .noat "ChunksWriter" "size") rfl)
theorem no_ChunksWriter_held (T : Tx K mg) : NoAttr K (He.ga K "ChunksWriter") "held" := He.noat_ok (T.says.fact 33 (f := .noat "ChunksWriter" "held") rfl)
theorem me_ChunksWriter_init (T : Tx K mg) : Meth K (He.ga K "ChunksWriter") "__init__" (He.ma K (He.ga K "ChunksWriter") "__init__") := He.meth_ok (T.says.fact 34 (f := .meth "ChunksWriter" "__init__") rfl)
theorem fn_ChunksWriter_init (T : Tx K mg) : ∃ fd, FunD K "__init__" "ChunksWriter.__init__" (defArgs s_ChunksWriter_init) (defBody s_ChunksWriter_init) (defScope s_ChunksWriter_init) [] [] (He.ma K (He.ga K "ChunksWriter") "__init__") fd := T.says.def_ 18 (d := d18) rfl
theorem me_ChunksWriter_take (T : Tx K mg) : Meth K (He.ga K "ChunksWriter") "take" (He.ma K (He.ga K "ChunksWriter") "take") := He.meth_ok (T.says.fact 35 (f := .meth "ChunksWriter" "take") rfl)
theorem fn_ChunksWriter_take (T : Tx K mg) : ∃ fd, FunD K "take" "ChunksWriter.take" (defArgs s_ChunksWriter_take) (defBody s_ChunksWriter_take) (defScope s_ChunksWriter_take) [] [] (He.ma K (He.ga K "ChunksWriter") "take") fd := T.says.def_ 19 (d := d19) rfl
theorem me_ChunksWriter_end (T : Tx K mg) : Meth K (He.ga K "ChunksWriter") "end" (He.ma K (He.ga K "ChunksWriter") "end") := He.meth_ok (T.says.fact 36 (f := .meth "ChunksWriter" "end") rfl)
theorem fn_ChunksWriter_end (T : Tx K mg) : ∃ fd, FunD K "end" "ChunksWriter.end" (defArgs s_ChunksWriter_end) (defBody s_ChunksWriter_end) (defScope s_ChunksWriter_end) [] [] (He.ma K (He.ga K "ChunksWriter") "end") fd := T.says.def_ 20 (d := d20) rfl
theorem g_ChunksReader (T : Tx K mg) : mg "ChunksReader" = some (.ref (He.ga K "ChunksReader")) := T.glo (T.says.fact 37 (f := .glo "ChunksReader") rfl)
theorem cl_ChunksReader (T : Tx K mg) : Cls K (He.ga K "ChunksReader") := He.cls_ok (T.says.fact 38 (f := .cls "ChunksReader") rfl)
theorem mk_ChunksReader (T : Tx K mg) : Mk K (He.ga K "ChunksReader") (He.ma K (He.ga K "ChunksReader") "__init__") := He.mkr_ok (T.says.fact 39 (f := .mkr "ChunksReader") rfl)
theorem no_ChunksReader_size (T : Tx K mg) : NoAttr K (He.ga K "ChunksReader") "size" := He.noat_ok (T.says.fact 40 (f := .noat "ChunksReader" "size") rfl)
theorem no_ChunksReader_done (T : Tx K mg) : NoAttr K (He.ga K "ChunksReader") "done" := He.noat_ok (T.says.fact 41 (f := .noat "ChunksReader" "done") rfl)
theorem no_ChunksReader_left (T : Tx K mg) : NoAttr K (He.ga K "ChunksReader") "left" := He.noat_ok (T.says.fact 42 (f := .noat "ChunksReader" "left") rfl)
theorem no_ChunksReader_is_last (T : Tx K mg) : NoAttr K (He.ga K "ChunksReader") "is_last" := He.noat_ok (T.says.fact 43 (f := .noat "ChunksReader" "is_last") rfl)
theorem me_ChunksReader_init (T : Tx K mg) : Meth K (He.ga K "ChunksReader") "__init__" (He.ma K (He.ga K "ChunksReader") "__init__") := He.meth_ok (T.says.fact 44 (f := .meth "ChunksReader" "__init__") rfl)
theorem fn_ChunksReader_init (T : Tx K mg) : ∃ fd, FunD K "__init__" "ChunksReader.__init__" (defArgs s_ChunksReader_init) (defBody s_ChunksReader_init) (defScope s_ChunksReader_init) [] [] (He.ma K (He.ga K "ChunksReader") "__init__") fd := T.says.def_ 21 (d := d21) rfl
theorem me_ChunksReader_take (T : Tx K mg) : Meth K (He.ga K "ChunksReader") "take" (He.ma K (He.ga K "ChunksReader") "take") := He.meth_ok (T.says.fact 45 (f := .meth "ChunksReader" "take") rfl)
theorem fn_ChunksReader_take (T : Tx K mg) : ∃ fd, FunD K "take" "ChunksReader.take" (defArgs s_ChunksReader_take) (defBody s_ChunksReader_take) (defScope s_ChunksReader_take) [] [] (He.ma K (He.ga K "ChunksReader") "take") fd := T.says.def_ 22 (d := d22) rfl
theorem me_ChunksReader_end (T : Tx K mg) : Meth K (He.ga K "ChunksReader") "end" (He.ma K (He.ga K "ChunksReader") "end") := He.meth_ok (T.says.fact 46 (f := .meth "ChunksReader" "end") rfl)
theorem fn_ChunksReader_end (T : Tx K mg) : ∃ fd, FunD K "end" "ChunksReader.end" (defArgs s_ChunksReader_end) (defBody s_ChunksReader_end) (defScope s_ChunksReader_end) [] [] (He.ma K (He.ga K "ChunksReader") "end") fd := T.says.def_ 23 (d := d23) rfl
theorem g_ChecksWriter (T : Tx K mg) : mg "ChecksWriter" = some (.ref (He.ga K "ChecksWriter")) := T.glo (T.says.fact 47 (f := .glo "ChecksWriter") rfl)
theorem cl_ChecksWriter (T : Tx K mg) : Cls K (He.ga K "ChecksWriter") := He.cls_ok (T.says.fact 48 (f := .cls "ChecksWriter") rfl)
theorem mk_ChecksWriter (T : Tx K mg) : Mk K (He.ga K "ChecksWriter") (He.ma K (He.ga K "ChecksWriter") "__init__") := He.mkr_ok (T.says.fact 49 (f := .mkr "ChecksWriter") rfl)
theorem no_ChecksWriter_size (T : Tx K mg) : NoAttr K (He.ga K "ChecksWriter") "size" := He.noat_ok (T.says.fact 50 (f := .noat "ChecksWriter" "size") rfl)
theorem no_ChecksWriter_many (T : Tx K mg) : NoAttr K (He.ga K "ChecksWriter") "many" := He.noat_ok (T.says.fact 51 (f := .noat "ChecksWriter" "many") rfl)
theorem no_ChecksWriter_check (T : Tx K mg) : NoAttr K (He.ga K "ChecksWriter") "check" := He.noat_ok (T.says.fact 52 (f := .noat "ChecksWriter" "check") rfl)
theorem me_ChecksWriter_init (T : Tx K mg) : Meth K (He.ga K "ChecksWriter") "__init__" (He.ma K (He.ga K "ChecksWriter") "__init__") := He.meth_ok (T.says.fact 53 (f := .meth "ChecksWriter" "__init__") rfl)
theorem fn_ChecksWriter_init (T : Tx K mg) : ∃ fd, FunD K "__init__" "ChecksWriter.__init__" (defArgs s_ChecksWriter_init) (defBody s_ChecksWriter_init) (defScope s_ChecksWriter_init) [] [] (He.ma K (He.ga K "ChecksWriter") "__init__") fd := T.says.def_ 24 (d := d24) rfl
theorem me_ChecksWriter_take (T : Tx K mg) : Meth K (He.ga K "ChecksWriter") "take" (He.ma K (He.ga K "ChecksWriter") "take") := He.meth_ok (T.says.fact 54 (f := .meth "ChecksWriter" "take") rfl)
theorem fn_ChecksWriter_take (T : Tx K mg) : ∃ fd, FunD K "take" "ChecksWriter.take" (defArgs s_ChecksWriter_take) (defBody s_ChecksWriter_take) (defScope s_ChecksWriter_take) [] [] (He.ma K (He.ga K "ChecksWriter") "take") fd := T.says.def_ 25 (d := d25) rfl
theorem me_ChecksWriter_end (T : Tx K mg) : Meth K (He.ga K "ChecksWriter") "end" (He.ma K (He.ga K "ChecksWriter") "end") := He.meth_ok (T.says.fact 55 (f := .meth "ChecksWriter" "end") rfl)
theorem fn_ChecksWriter_end (T : Tx K mg) : ∃ fd, FunD K "end" "ChecksWriter.end" (defArgs s_ChecksWriter_end) (defBody s_ChecksWriter_end) (defScope s_ChecksWriter_end) [] [] (He.ma K (He.ga K "ChecksWriter") "end") fd := T.says.def_ 26 (d := d26) rfl
theorem g_ChecksReader (T : Tx K mg) : mg "ChecksReader" = some (.ref (He.ga K "ChecksReader")) := T.glo (T.says.fact 56 (f := .glo "ChecksReader") rfl)
theorem cl_ChecksReader (T : Tx K mg) : Cls K (He.ga K "ChecksReader") := He.cls_ok (T.says.fact 57 (f := .cls "ChecksReader") rfl)
theorem mk_ChecksReader (T : Tx K mg) : Mk K (He.ga K "ChecksReader") (He.ma K (He.ga K "ChecksReader") "__init__") := He.mkr_ok (T.says.fact 58 (f := .mkr "ChecksReader") rfl)
theorem no_ChecksReader_size (T : Tx K mg) : NoAttr K (He.ga K "ChecksReader") "size" := He.noat_ok (T.says.fact 59 (f := .noat "ChecksReader" "size") rfl)
theorem no_ChecksReader_done (T : Tx K mg) : NoAttr K (He.ga K "ChecksReader") "done" := He.noat_ok (T.says.fact 60 (f := .noat "ChecksReader" "done") rfl)
theorem no_ChecksReader_check (T : Tx K mg) : NoAttr K (He.ga K "ChecksReader") "check" := He.noat_ok (T.says.fact 61 (f := .noat "ChecksReader" "check") rfl)
theorem no_ChecksReader_held (T : Tx K mg) : NoAttr K (He.ga K "ChecksReader") "held" := He.noat_ok (T.says.fact 62 (f := .noat "ChecksReader" "held") rfl)
theorem me_ChecksReader_init (T : Tx K mg) : Meth K (He.ga K "ChecksReader") "__init__" (He.ma K (He.ga K "ChecksReader") "__init__") := He.meth_ok (T.says.fact 63 (f := .meth "ChecksReader" "__init__") rfl)
theorem fn_ChecksReader_init (T : Tx K mg) : ∃ fd, FunD K "__init__" "ChecksReader.__init__" (defArgs s_ChecksReader_init) (defBody s_ChecksReader_init) (defScope s_ChecksReader_init) [] [] (He.ma K (He.ga K "ChecksReader") "__init__") fd := T.says.def_ 27 (d := d27) rfl
theorem me_ChecksReader_block (T : Tx K mg) : Meth K (He.ga K "ChecksReader") "block" (He.ma K (He.ga K "ChecksReader") "block") := He.meth_ok (T.says.fact 64 (f := .meth "ChecksReader" "block") rfl)
theorem fn_ChecksReader_block (T : Tx K mg) : ∃ fd, FunD K "block" "ChecksReader.block" (defArgs s_ChecksReader_block) (defBody s_ChecksReader_block) (defScope s_ChecksReader_block) [] [] (He.ma K (He.ga K "ChecksReader") "block") fd := T.says.def_ 28 (d := d28) rfl
theorem me_ChecksReader_take (T : Tx K mg) : Meth K (He.ga K "ChecksReader") "take" (He.ma K (He.ga K "ChecksReader") "take") := He.meth_ok (T.says.fact 65 (f := .meth "ChecksReader" "take") rfl)
theorem fn_ChecksReader_take (T : Tx K mg) : ∃ fd, FunD K "take" "ChecksReader.take" (defArgs s_ChecksReader_take) (defBody s_ChecksReader_take) (defScope s_ChecksReader_take) [] [] (He.ma K (He.ga K "ChecksReader") "take") fd := T.says.def_ 29 (d := d29) rfl
theorem me_ChecksReader_end (T : Tx K mg) : Meth K (He.ga K "ChecksReader") "end" (He.ma K (He.ga K "ChecksReader") "end") := He.meth_ok (T.says.fact 66 (f := .meth "ChecksReader" "end") rfl)
theorem fn_ChecksReader_end (T : Tx K mg) : ∃ fd, FunD K "end" "ChecksReader.end" (defArgs s_ChecksReader_end) (defBody s_ChecksReader_end) (defScope s_ChecksReader_end) [] [] (He.ma K (He.ga K "ChecksReader") "end") fd := T.says.def_ 30 (d := d30) rfl
theorem g_EscapeWriter (T : Tx K mg) : mg "EscapeWriter" = some (.ref (He.ga K "EscapeWriter")) := T.glo (T.says.fact 67 (f := .glo "EscapeWriter") rfl)
theorem cl_EscapeWriter (T : Tx K mg) : Cls K (He.ga K "EscapeWriter") := He.cls_ok (T.says.fact 68 (f := .cls "EscapeWriter") rfl)
theorem mk_EscapeWriter (T : Tx K mg) : Mk K (He.ga K "EscapeWriter") (He.ma K (He.ga K "EscapeWriter") "__init__") := He.mkr_ok (T.says.fact 69 (f := .mkr "EscapeWriter") rfl)
theorem no_EscapeWriter_marks (T : Tx K mg) : NoAttr K (He.ga K "EscapeWriter") "marks" := He.noat_ok (T.says.fact 70 (f := .noat "EscapeWriter" "marks") rfl)
theorem me_EscapeWriter_init (T : Tx K mg) : Meth K (He.ga K "EscapeWriter") "__init__" (He.ma K (He.ga K "EscapeWriter") "__init__") := He.meth_ok (T.says.fact 71 (f := .meth "EscapeWriter" "__init__") rfl)
theorem fn_EscapeWriter_init (T : Tx K mg) : ∃ fd, FunD K "__init__" "EscapeWriter.__init__" (defArgs s_EscapeWriter_init) (defBody s_EscapeWriter_init) (defScope s_EscapeWriter_init) [] [] (He.ma K (He.ga K "EscapeWriter") "__init__") fd := T.says.def_ 31 (d := d31) rfl
theorem me_EscapeWriter_take (T : Tx K mg) : Meth K (He.ga K "EscapeWriter") "take" (He.ma K (He.ga K "EscapeWriter") "take") := He.meth_ok (T.says.fact 72 (f := .meth "EscapeWriter" "take") rfl)
theorem fn_EscapeWriter_take (T : Tx K mg) : ∃ fd, FunD K "take" "EscapeWriter.take" (defArgs s_EscapeWriter_take) (defBody s_EscapeWriter_take) (defScope s_EscapeWriter_take) [] [] (He.ma K (He.ga K "EscapeWriter") "take") fd := T.says.def_ 32 (d := d32) rfl
theorem me_EscapeWriter_end (T : Tx K mg) : Meth K (He.ga K "EscapeWriter") "end" (He.ma K (He.ga K "EscapeWriter") "end") := He.meth_ok (T.says.fact 73 (f := .meth "EscapeWriter" "end") rfl)
theorem fn_EscapeWriter_end (T : Tx K mg) : ∃ fd, FunD K "end" "EscapeWriter.end" (defArgs s_EscapeWriter_end) (defBody s_EscapeWriter_end) (defScope s_EscapeWriter_end) [] [] (He.ma K (He.ga K "EscapeWriter") "end") fd := T.says.def_ 33 (d := d33) rfl
theorem g_EscapeReader (T : Tx K mg) : mg "EscapeReader" = some (.ref (He.ga K "EscapeReader")) := T.glo (T.says.fact 74 (f := .glo "EscapeReader") rfl)
theorem cl_EscapeReader (T : Tx K mg) : Cls K (He.ga K "EscapeReader") := He.cls_ok (T.says.fact 75 (f := .cls "EscapeReader") rfl)
theorem mk_EscapeReader (T : Tx K mg) : Mk K (He.ga K "EscapeReader") (He.ma K (He.ga K "EscapeReader") "__init__") := He.mkr_ok (T.says.fact 76 (f := .mkr "EscapeReader") rfl)
theorem no_EscapeReader_marks (T : Tx K mg) : NoAttr K (He.ga K "EscapeReader") "marks" := He.noat_ok (T.says.fact 77 (f := .noat "EscapeReader" "marks") rfl)
theorem no_EscapeReader_done (T : Tx K mg) : NoAttr K (He.ga K "EscapeReader") "done" := He.noat_ok (T.says.fact 78 (f := .noat "EscapeReader" "done") rfl)
theorem no_EscapeReader_marked (T : Tx K mg) : NoAttr K (He.ga K "EscapeReader") "marked" := He.noat_ok (T.says.fact 79 (f := .noat "EscapeReader" "marked") rfl)
theorem me_EscapeReader_init (T : Tx K mg) : Meth K (He.ga K "EscapeReader") "__init__" (He.ma K (He.ga K "EscapeReader") "__init__") := He.meth_ok (T.says.fact 80 (f := .meth "EscapeReader" "__init__") rfl)
theorem fn_EscapeReader_init (T : Tx K mg) : ∃ fd, FunD K "__init__" "EscapeReader.__init__" (defArgs s_EscapeReader_init) (defBody s_EscapeReader_init) (defScope s_EscapeReader_init) [] [] (He.ma K (He.ga K "EscapeReader") "__init__") fd := T.says.def_ 34 (d := d34) rfl
theorem me_EscapeReader_take (T : Tx K mg) : Meth K (He.ga K "EscapeReader") "take" (He.ma K (He.ga K "EscapeReader") "take") := He.meth_ok (T.says.fact 81 (f := .meth "EscapeReader" "take") rfl)
theorem fn_EscapeReader_take (T : Tx K mg) : ∃ fd, FunD K "take" "EscapeReader.take" (defArgs s_EscapeReader_take) (defBody s_EscapeReader_take) (defScope s_EscapeReader_take) [] [] (He.ma K (He.ga K "EscapeReader") "take") fd := T.says.def_ 35 (d := d35) rfl
theorem me_EscapeReader_end (T : Tx K mg) : Meth K (He.ga K "EscapeReader") "end" (He.ma K (He.ga K "EscapeReader") "end") := He.meth_ok (T.says.fact 82 (f := .meth "EscapeReader" "end") rfl)
theorem fn_EscapeReader_end (T : Tx K mg) : ∃ fd, FunD K "end" "EscapeReader.end" (defArgs s_EscapeReader_end) (defBody s_EscapeReader_end) (defScope s_EscapeReader_end) [] [] (He.ma K (He.ga K "EscapeReader") "end") fd := T.says.def_ 36 (d := d36) rfl
theorem g_RunsWriter (T : Tx K mg) : mg "RunsWriter" = some (.ref (He.ga K "RunsWriter")) := T.glo (T.says.fact 83 (f := .glo "RunsWriter") rfl)
theorem cl_RunsWriter (T : Tx K mg) : Cls K (He.ga K "RunsWriter") := He.cls_ok (T.says.fact 84 (f := .cls "RunsWriter") rfl)
theorem mk_RunsWriter (T : Tx K mg) : Mk K (He.ga K "RunsWriter") (He.ma K (He.ga K "RunsWriter") "__init__") := He.mkr_ok (T.says.fact 85 (f := .mkr "RunsWriter") rfl)
theorem no_RunsWriter_many (T : Tx K mg) : NoAttr K (He.ga K "RunsWriter") "many" := He.noat_ok (T.says.fact 86 (f := .noat "RunsWriter" "many") rfl)
theorem no_RunsWriter_byte (T : Tx K mg) : NoAttr K (He.ga K "RunsWriter") "byte" := He.noat_ok (T.says.fact 87 (f := .noat "RunsWriter" "byte") rfl)
theorem me_RunsWriter_init (T : Tx K mg) : Meth K (He.ga K "RunsWriter") "__init__" (He.ma K (He.ga K "RunsWriter") "__init__") := He.meth_ok (T.says.fact 88 (f := .meth "RunsWriter" "__init__") rfl)
theorem fn_RunsWriter_init (T : Tx K mg) : ∃ fd, FunD K "__init__" "RunsWriter.__init__" (defArgs s_RunsWriter_init) (defBody s_RunsWriter_init) (defScope s_RunsWriter_init) [] [] (He.ma K (He.ga K "RunsWriter") "__init__") fd := T.says.def_ 37 (d := d37) rfl
theorem me_RunsWriter_take (T : Tx K mg) : Meth K (He.ga K "RunsWriter") "take" (He.ma K (He.ga K "RunsWriter") "take") := He.meth_ok (T.says.fact 89 (f := .meth "RunsWriter" "take") rfl)
theorem fn_RunsWriter_take (T : Tx K mg) : ∃ fd, FunD K "take" "RunsWriter.take" (defArgs s_RunsWriter_take) (defBody s_RunsWriter_take) (defScope s_RunsWriter_take) [] [] (He.ma K (He.ga K "RunsWriter") "take") fd := T.says.def_ 38 (d := d38) rfl
theorem me_RunsWriter_end (T : Tx K mg) : Meth K (He.ga K "RunsWriter") "end" (He.ma K (He.ga K "RunsWriter") "end") := He.meth_ok (T.says.fact 90 (f := .meth "RunsWriter" "end") rfl)
theorem fn_RunsWriter_end (T : Tx K mg) : ∃ fd, FunD K "end" "RunsWriter.end" (defArgs s_RunsWriter_end) (defBody s_RunsWriter_end) (defScope s_RunsWriter_end) [] [] (He.ma K (He.ga K "RunsWriter") "end") fd := T.says.def_ 39 (d := d39) rfl
theorem g_RunsReader (T : Tx K mg) : mg "RunsReader" = some (.ref (He.ga K "RunsReader")) := T.glo (T.says.fact 91 (f := .glo "RunsReader") rfl)
theorem cl_RunsReader (T : Tx K mg) : Cls K (He.ga K "RunsReader") := He.cls_ok (T.says.fact 92 (f := .cls "RunsReader") rfl)
theorem mk_RunsReader (T : Tx K mg) : Mk K (He.ga K "RunsReader") (He.ma K (He.ga K "RunsReader") "__init__") := He.mkr_ok (T.says.fact 93 (f := .mkr "RunsReader") rfl)
theorem no_RunsReader_done (T : Tx K mg) : NoAttr K (He.ga K "RunsReader") "done" := He.noat_ok (T.says.fact 94 (f := .noat "RunsReader" "done") rfl)
theorem no_RunsReader_many (T : Tx K mg) : NoAttr K (He.ga K "RunsReader") "many" := He.noat_ok (T.says.fact 95 (f := .noat "RunsReader" "many") rfl)
theorem no_RunsReader_last (T : Tx K mg) : NoAttr K (He.ga K "RunsReader") "last" := He.noat_ok (T.says.fact 96 (f := .noat "RunsReader" "last") rfl)
theorem me_RunsReader_init (T : Tx K mg) : Meth K (He.ga K "RunsReader") "__init__" (He.ma K (He.ga K "RunsReader") "__init__") := He.meth_ok (T.says.fact 97 (f := .meth "RunsReader" "__init__") rfl)
theorem fn_RunsReader_init (T : Tx K mg) : ∃ fd, FunD K "__init__" "RunsReader.__init__" (defArgs s_RunsReader_init) (defBody s_RunsReader_init) (defScope s_RunsReader_init) [] [] (He.ma K (He.ga K "RunsReader") "__init__") fd := T.says.def_ 40 (d := d40) rfl
theorem me_RunsReader_take (T : Tx K mg) : Meth K (He.ga K "RunsReader") "take" (He.ma K (He.ga K "RunsReader") "take") := He.meth_ok (T.says.fact 98 (f := .meth "RunsReader" "take") rfl)
theorem fn_RunsReader_take (T : Tx K mg) : ∃ fd, FunD K "take" "RunsReader.take" (defArgs s_RunsReader_take) (defBody s_RunsReader_take) (defScope s_RunsReader_take) [] [] (He.ma K (He.ga K "RunsReader") "take") fd := T.says.def_ 41 (d := d41) rfl
theorem me_RunsReader_end (T : Tx K mg) : Meth K (He.ga K "RunsReader") "end" (He.ma K (He.ga K "RunsReader") "end") := He.meth_ok (T.says.fact 99 (f := .meth "RunsReader" "end") rfl)
theorem fn_RunsReader_end (T : Tx K mg) : ∃ fd, FunD K "end" "RunsReader.end" (defArgs s_RunsReader_end) (defBody s_RunsReader_end) (defScope s_RunsReader_end) [] [] (He.ma K (He.ga K "RunsReader") "end") fd := T.says.def_ 42 (d := d42) rfl
theorem g_SignsWriter (T : Tx K mg) : mg "SignsWriter" = some (.ref (He.ga K "SignsWriter")) := T.glo (T.says.fact 100 (f := .glo "SignsWriter") rfl)
theorem cl_SignsWriter (T : Tx K mg) : Cls K (He.ga K "SignsWriter") := He.cls_ok (T.says.fact 101 (f := .cls "SignsWriter") rfl)
theorem mk_SignsWriter (T : Tx K mg) : Mk K (He.ga K "SignsWriter") (He.ma K (He.ga K "SignsWriter") "__init__") := He.mkr_ok (T.says.fact 102 (f := .mkr "SignsWriter") rfl)
theorem no_SignsWriter_many (T : Tx K mg) : NoAttr K (He.ga K "SignsWriter") "many" := He.noat_ok (T.says.fact 103 (f := .noat "SignsWriter" "many") rfl)
theorem no_SignsWriter_value (T : Tx K mg) : NoAttr K (He.ga K "SignsWriter") "value" := He.noat_ok (T.says.fact 104 (f := .noat "SignsWriter" "value") rfl)
theorem me_SignsWriter_init (T : Tx K mg) : Meth K (He.ga K "SignsWriter") "__init__" (He.ma K (He.ga K "SignsWriter") "__init__") := He.meth_ok (T.says.fact 105 (f := .meth "SignsWriter" "__init__") rfl)
theorem fn_SignsWriter_init (T : Tx K mg) : ∃ fd, FunD K "__init__" "SignsWriter.__init__" (defArgs s_SignsWriter_init) (defBody s_SignsWriter_init) (defScope s_SignsWriter_init) [] [] (He.ma K (He.ga K "SignsWriter") "__init__") fd := T.says.def_ 43 (d := d43) rfl
theorem me_SignsWriter_take (T : Tx K mg) : Meth K (He.ga K "SignsWriter") "take" (He.ma K (He.ga K "SignsWriter") "take") := He.meth_ok (T.says.fact 106 (f := .meth "SignsWriter" "take") rfl)
theorem fn_SignsWriter_take (T : Tx K mg) : ∃ fd, FunD K "take" "SignsWriter.take" (defArgs s_SignsWriter_take) (defBody s_SignsWriter_take) (defScope s_SignsWriter_take) [] [] (He.ma K (He.ga K "SignsWriter") "take") fd := T.says.def_ 44 (d := d44) rfl
theorem me_SignsWriter_end (T : Tx K mg) : Meth K (He.ga K "SignsWriter") "end" (He.ma K (He.ga K "SignsWriter") "end") := He.meth_ok (T.says.fact 107 (f := .meth "SignsWriter" "end") rfl)
theorem fn_SignsWriter_end (T : Tx K mg) : ∃ fd, FunD K "end" "SignsWriter.end" (defArgs s_SignsWriter_end) (defBody s_SignsWriter_end) (defScope s_SignsWriter_end) [] [] (He.ma K (He.ga K "SignsWriter") "end") fd := T.says.def_ 45 (d := d45) rfl
theorem g_SignsReader (T : Tx K mg) : mg "SignsReader" = some (.ref (He.ga K "SignsReader")) := T.glo (T.says.fact 108 (f := .glo "SignsReader") rfl)
theorem cl_SignsReader (T : Tx K mg) : Cls K (He.ga K "SignsReader") := He.cls_ok (T.says.fact 109 (f := .cls "SignsReader") rfl)
theorem mk_SignsReader (T : Tx K mg) : Mk K (He.ga K "SignsReader") (He.ma K (He.ga K "SignsReader") "__init__") := He.mkr_ok (T.says.fact 110 (f := .mkr "SignsReader") rfl)
theorem no_SignsReader_done (T : Tx K mg) : NoAttr K (He.ga K "SignsReader") "done" := He.noat_ok (T.says.fact 111 (f := .noat "SignsReader" "done") rfl)
theorem no_SignsReader_many (T : Tx K mg) : NoAttr K (He.ga K "SignsReader") "many" := He.noat_ok (T.says.fact 112 (f := .noat "SignsReader" "many") rfl)
theorem no_SignsReader_value (T : Tx K mg) : NoAttr K (He.ga K "SignsReader") "value" := He.noat_ok (T.says.fact 113 (f := .noat "SignsReader" "value") rfl)
theorem me_SignsReader_init (T : Tx K mg) : Meth K (He.ga K "SignsReader") "__init__" (He.ma K (He.ga K "SignsReader") "__init__") := He.meth_ok (T.says.fact 114 (f := .meth "SignsReader" "__init__") rfl)
theorem fn_SignsReader_init (T : Tx K mg) : ∃ fd, FunD K "__init__" "SignsReader.__init__" (defArgs s_SignsReader_init) (defBody s_SignsReader_init) (defScope s_SignsReader_init) [] [] (He.ma K (He.ga K "SignsReader") "__init__") fd := T.says.def_ 46 (d := d46) rfl
theorem me_SignsReader_take (T : Tx K mg) : Meth K (He.ga K "SignsReader") "take" (He.ma K (He.ga K "SignsReader") "take") := He.meth_ok (T.says.fact 115 (f := .meth "SignsReader" "take") rfl)
theorem fn_SignsReader_take (T : Tx K mg) : ∃ fd, FunD K "take" "SignsReader.take" (defArgs s_SignsReader_take) (defBody s_SignsReader_take) (defScope s_SignsReader_take) [] [] (He.ma K (He.ga K "SignsReader") "take") fd := T.says.def_ 47 (d := d47) rfl
theorem me_SignsReader_end (T : Tx K mg) : Meth K (He.ga K "SignsReader") "end" (He.ma K (He.ga K "SignsReader") "end") := He.meth_ok (T.says.fact 116 (f := .meth "SignsReader" "end") rfl)
theorem fn_SignsReader_end (T : Tx K mg) : ∃ fd, FunD K "end" "SignsReader.end" (defArgs s_SignsReader_end) (defBody s_SignsReader_end) (defScope s_SignsReader_end) [] [] (He.ma K (He.ga K "SignsReader") "end") fd := T.says.def_ 48 (d := d48) rfl
theorem g_AddWriter (T : Tx K mg) : mg "AddWriter" = some (.ref (He.ga K "AddWriter")) := T.glo (T.says.fact 117 (f := .glo "AddWriter") rfl)
theorem cl_AddWriter (T : Tx K mg) : Cls K (He.ga K "AddWriter") := He.cls_ok (T.says.fact 118 (f := .cls "AddWriter") rfl)
theorem mk_AddWriter (T : Tx K mg) : Mk K (He.ga K "AddWriter") (He.ma K (He.ga K "AddWriter") "__init__") := He.mkr_ok (T.says.fact 119 (f := .mkr "AddWriter") rfl)
theorem no_AddWriter_key (T : Tx K mg) : NoAttr K (He.ga K "AddWriter") "key" := He.noat_ok (T.says.fact 120 (f := .noat "AddWriter" "key") rfl)
theorem no_AddWriter_at (T : Tx K mg) : NoAttr K (He.ga K "AddWriter") "at" := He.noat_ok (T.says.fact 121 (f := .noat "AddWriter" "at") rfl)
theorem me_AddWriter_init (T : Tx K mg) : Meth K (He.ga K "AddWriter") "__init__" (He.ma K (He.ga K "AddWriter") "__init__") := He.meth_ok (T.says.fact 122 (f := .meth "AddWriter" "__init__") rfl)
theorem fn_AddWriter_init (T : Tx K mg) : ∃ fd, FunD K "__init__" "AddWriter.__init__" (defArgs s_AddWriter_init) (defBody s_AddWriter_init) (defScope s_AddWriter_init) [] [] (He.ma K (He.ga K "AddWriter") "__init__") fd := T.says.def_ 49 (d := d49) rfl
theorem me_AddWriter_turned (T : Tx K mg) : Meth K (He.ga K "AddWriter") "turned" (He.ma K (He.ga K "AddWriter") "turned") := He.meth_ok (T.says.fact 123 (f := .meth "AddWriter" "turned") rfl)
theorem fn_AddWriter_turned (T : Tx K mg) : ∃ fd, FunD K "turned" "AddWriter.turned" (defArgs s_AddWriter_turned) (defBody s_AddWriter_turned) (defScope s_AddWriter_turned) [] [] (He.ma K (He.ga K "AddWriter") "turned") fd := T.says.def_ 50 (d := d50) rfl
theorem me_AddWriter_take (T : Tx K mg) : Meth K (He.ga K "AddWriter") "take" (He.ma K (He.ga K "AddWriter") "take") := He.meth_ok (T.says.fact 124 (f := .meth "AddWriter" "take") rfl)
theorem fn_AddWriter_take (T : Tx K mg) : ∃ fd, FunD K "take" "AddWriter.take" (defArgs s_AddWriter_take) (defBody s_AddWriter_take) (defScope s_AddWriter_take) [] [] (He.ma K (He.ga K "AddWriter") "take") fd := T.says.def_ 51 (d := d51) rfl
theorem me_AddWriter_end (T : Tx K mg) : Meth K (He.ga K "AddWriter") "end" (He.ma K (He.ga K "AddWriter") "end") := He.meth_ok (T.says.fact 125 (f := .meth "AddWriter" "end") rfl)
theorem fn_AddWriter_end (T : Tx K mg) : ∃ fd, FunD K "end" "AddWriter.end" (defArgs s_AddWriter_end) (defBody s_AddWriter_end) (defScope s_AddWriter_end) [] [] (He.ma K (He.ga K "AddWriter") "end") fd := T.says.def_ 52 (d := d52) rfl
theorem g_AddReader (T : Tx K mg) : mg "AddReader" = some (.ref (He.ga K "AddReader")) := T.glo (T.says.fact 126 (f := .glo "AddReader") rfl)
theorem cl_AddReader (T : Tx K mg) : Cls K (He.ga K "AddReader") := He.cls_ok (T.says.fact 127 (f := .cls "AddReader") rfl)
theorem mk_AddReader (T : Tx K mg) : Mk K (He.ga K "AddReader") (He.ma K (He.ga K "AddReader") "__init__") := He.mkr_ok (T.says.fact 128 (f := .mkr "AddReader") rfl)
theorem no_AddReader_key (T : Tx K mg) : NoAttr K (He.ga K "AddReader") "key" := He.noat_ok (T.says.fact 129 (f := .noat "AddReader" "key") rfl)
theorem no_AddReader_at (T : Tx K mg) : NoAttr K (He.ga K "AddReader") "at" := He.noat_ok (T.says.fact 130 (f := .noat "AddReader" "at") rfl)
theorem me_AddReader_turned (T : Tx K mg) : Meth K (He.ga K "AddReader") "turned" (He.ma K (He.ga K "AddReader") "turned") := He.meth_ok (T.says.fact 131 (f := .meth "AddReader" "turned") rfl)
theorem fn_AddReader_turned (T : Tx K mg) : ∃ fd, FunD K "turned" "AddReader.turned" (defArgs s_AddReader_turned) (defBody s_AddReader_turned) (defScope s_AddReader_turned) [] [] (He.ma K (He.ga K "AddReader") "turned") fd := T.says.def_ 53 (d := d53) rfl
theorem me_AddReader_init (T : Tx K mg) : Meth K (He.ga K "AddReader") "__init__" (He.ma K (He.ga K "AddReader") "__init__") := He.meth_ok (T.says.fact 132 (f := .meth "AddReader" "__init__") rfl)
theorem fn_AddReader_init (T : Tx K mg) : ∃ fd, FunD K "__init__" "AddWriter.__init__" (defArgs s_AddWriter_init) (defBody s_AddWriter_init) (defScope s_AddWriter_init) [] [] (He.ma K (He.ga K "AddReader") "__init__") fd := T.says.def_ 54 (d := d54) rfl
theorem me_AddReader_take (T : Tx K mg) : Meth K (He.ga K "AddReader") "take" (He.ma K (He.ga K "AddReader") "take") := He.meth_ok (T.says.fact 133 (f := .meth "AddReader" "take") rfl)
theorem fn_AddReader_take (T : Tx K mg) : ∃ fd, FunD K "take" "AddWriter.take" (defArgs s_AddWriter_take) (defBody s_AddWriter_take) (defScope s_AddWriter_take) [] [] (He.ma K (He.ga K "AddReader") "take") fd := T.says.def_ 55 (d := d55) rfl
theorem me_AddReader_end (T : Tx K mg) : Meth K (He.ga K "AddReader") "end" (He.ma K (He.ga K "AddReader") "end") := He.meth_ok (T.says.fact 134 (f := .meth "AddReader" "end") rfl)
theorem fn_AddReader_end (T : Tx K mg) : ∃ fd, FunD K "end" "AddWriter.end" (defArgs s_AddWriter_end) (defBody s_AddWriter_end) (defScope s_AddWriter_end) [] [] (He.ma K (He.ga K "AddReader") "end") fd := T.says.def_ 56 (d := d56) rfl
theorem g_FrontWriter (T : Tx K mg) : mg "FrontWriter" = some (.ref (He.ga K "FrontWriter")) := T.glo (T.says.fact 135 (f := .glo "FrontWriter") rfl)
theorem cl_FrontWriter (T : Tx K mg) : Cls K (He.ga K "FrontWriter") := He.cls_ok (T.says.fact 136 (f := .cls "FrontWriter") rfl)
theorem mk_FrontWriter (T : Tx K mg) : Mk K (He.ga K "FrontWriter") (He.ma K (He.ga K "FrontWriter") "__init__") := He.mkr_ok (T.says.fact 137 (f := .mkr "FrontWriter") rfl)
theorem no_FrontWriter_row (T : Tx K mg) : NoAttr K (He.ga K "FrontWriter") "row" := He.noat_ok (T.says.fact 138 (f := .noat "FrontWriter" "row") rfl)
theorem me_FrontWriter_init (T : Tx K mg) : Meth K (He.ga K "FrontWriter") "__init__" (He.ma K (He.ga K "FrontWriter") "__init__") := He.meth_ok (T.says.fact 139 (f := .meth "FrontWriter" "__init__") rfl)
theorem fn_FrontWriter_init (T : Tx K mg) : ∃ fd, FunD K "__init__" "FrontWriter.__init__" (defArgs s_FrontWriter_init) (defBody s_FrontWriter_init) (defScope s_FrontWriter_init) [] [] (He.ma K (He.ga K "FrontWriter") "__init__") fd := T.says.def_ 57 (d := d57) rfl
theorem me_FrontWriter_to_front (T : Tx K mg) : Meth K (He.ga K "FrontWriter") "to_front" (He.ma K (He.ga K "FrontWriter") "to_front") := He.meth_ok (T.says.fact 140 (f := .meth "FrontWriter" "to_front") rfl)
theorem fn_FrontWriter_to_front (T : Tx K mg) : ∃ fd, FunD K "to_front" "FrontWriter.to_front" (defArgs s_FrontWriter_to_front) (defBody s_FrontWriter_to_front) (defScope s_FrontWriter_to_front) [] [] (He.ma K (He.ga K "FrontWriter") "to_front") fd := T.says.def_ 58 (d := d58) rfl
theorem me_FrontWriter_take (T : Tx K mg) : Meth K (He.ga K "FrontWriter") "take" (He.ma K (He.ga K "FrontWriter") "take") := He.meth_ok (T.says.fact 141 (f := .meth "FrontWriter" "take") rfl)
theorem fn_FrontWriter_take (T : Tx K mg) : ∃ fd, FunD K "take" "FrontWriter.take" (defArgs s_FrontWriter_take) (defBody s_FrontWriter_take) (defScope s_FrontWriter_take) [] [] (He.ma K (He.ga K "FrontWriter") "take") fd := T.says.def_ 59 (d := d59) rfl
theorem me_FrontWriter_end (T : Tx K mg) : Meth K (He.ga K "FrontWriter") "end" (He.ma K (He.ga K "FrontWriter") "end") := He.meth_ok (T.says.fact 142 (f := .meth "FrontWriter" "end") rfl)
theorem fn_FrontWriter_end (T : Tx K mg) : ∃ fd, FunD K "end" "FrontWriter.end" (defArgs s_FrontWriter_end) (defBody s_FrontWriter_end) (defScope s_FrontWriter_end) [] [] (He.ma K (He.ga K "FrontWriter") "end") fd := T.says.def_ 60 (d := d60) rfl
theorem g_FrontReader (T : Tx K mg) : mg "FrontReader" = some (.ref (He.ga K "FrontReader")) := T.glo (T.says.fact 143 (f := .glo "FrontReader") rfl)
theorem cl_FrontReader (T : Tx K mg) : Cls K (He.ga K "FrontReader") := He.cls_ok (T.says.fact 144 (f := .cls "FrontReader") rfl)
theorem mk_FrontReader (T : Tx K mg) : Mk K (He.ga K "FrontReader") (He.ma K (He.ga K "FrontReader") "__init__") := He.mkr_ok (T.says.fact 145 (f := .mkr "FrontReader") rfl)
theorem no_FrontReader_row (T : Tx K mg) : NoAttr K (He.ga K "FrontReader") "row" := He.noat_ok (T.says.fact 146 (f := .noat "FrontReader" "row") rfl)
theorem me_FrontReader_take (T : Tx K mg) : Meth K (He.ga K "FrontReader") "take" (He.ma K (He.ga K "FrontReader") "take") := He.meth_ok (T.says.fact 147 (f := .meth "FrontReader" "take") rfl)
theorem fn_FrontReader_take (T : Tx K mg) : ∃ fd, FunD K "take" "FrontReader.take" (defArgs s_FrontReader_take) (defBody s_FrontReader_take) (defScope s_FrontReader_take) [] [] (He.ma K (He.ga K "FrontReader") "take") fd := T.says.def_ 61 (d := d61) rfl
theorem me_FrontReader_init (T : Tx K mg) : Meth K (He.ga K "FrontReader") "__init__" (He.ma K (He.ga K "FrontReader") "__init__") := He.meth_ok (T.says.fact 148 (f := .meth "FrontReader" "__init__") rfl)
theorem fn_FrontReader_init (T : Tx K mg) : ∃ fd, FunD K "__init__" "FrontWriter.__init__" (defArgs s_FrontWriter_init) (defBody s_FrontWriter_init) (defScope s_FrontWriter_init) [] [] (He.ma K (He.ga K "FrontReader") "__init__") fd := T.says.def_ 62 (d := d62) rfl
theorem me_FrontReader_to_front (T : Tx K mg) : Meth K (He.ga K "FrontReader") "to_front" (He.ma K (He.ga K "FrontReader") "to_front") := He.meth_ok (T.says.fact 149 (f := .meth "FrontReader" "to_front") rfl)
theorem fn_FrontReader_to_front (T : Tx K mg) : ∃ fd, FunD K "to_front" "FrontWriter.to_front" (defArgs s_FrontWriter_to_front) (defBody s_FrontWriter_to_front) (defScope s_FrontWriter_to_front) [] [] (He.ma K (He.ga K "FrontReader") "to_front") fd := T.says.def_ 63 (d := d63) rfl
theorem me_FrontReader_end (T : Tx K mg) : Meth K (He.ga K "FrontReader") "end" (He.ma K (He.ga K "FrontReader") "end") := He.meth_ok (T.says.fact 150 (f := .meth "FrontReader" "end") rfl)
theorem fn_FrontReader_end (T : Tx K mg) : ∃ fd, FunD K "end" "FrontWriter.end" (defArgs s_FrontWriter_end) (defBody s_FrontWriter_end) (defScope s_FrontWriter_end) [] [] (He.ma K (He.ga K "FrontReader") "end") fd := T.says.def_ 64 (d := d64) rfl
theorem g_Writer (T : Tx K mg) : mg "Writer" = some (.ref (He.ga K "Writer")) := T.glo (T.says.fact 151 (f := .glo "Writer") rfl)
theorem cl_Writer (T : Tx K mg) : Cls K (He.ga K "Writer") := He.cls_ok (T.says.fact 152 (f := .cls "Writer") rfl)
theorem mk_Writer (T : Tx K mg) : Mk K (He.ga K "Writer") (He.ma K (He.ga K "Writer") "__init__") := He.mkr_ok (T.says.fact 153 (f := .mkr "Writer") rfl)
theorem no_Writer_parts (T : Tx K mg) : NoAttr K (He.ga K "Writer") "parts" := He.noat_ok (T.says.fact 154 (f := .noat "Writer" "parts") rfl)
theorem me_Writer_init (T : Tx K mg) : Meth K (He.ga K "Writer") "__init__" (He.ma K (He.ga K "Writer") "__init__") := He.meth_ok (T.says.fact 155 (f := .meth "Writer" "__init__") rfl)
theorem fn_Writer_init (T : Tx K mg) : ∃ fd, FunD K "__init__" "Writer.__init__" (defArgs s_Writer_init) (defBody s_Writer_init) (defScope s_Writer_init) [] [] (He.ma K (He.ga K "Writer") "__init__") fd := T.says.def_ 65 (d := d65) rfl
theorem me_Writer_take (T : Tx K mg) : Meth K (He.ga K "Writer") "take" (He.ma K (He.ga K "Writer") "take") := He.meth_ok (T.says.fact 156 (f := .meth "Writer" "take") rfl)
theorem fn_Writer_take (T : Tx K mg) : ∃ fd, FunD K "take" "Writer.take" (defArgs s_Writer_take) (defBody s_Writer_take) (defScope s_Writer_take) [] [] (He.ma K (He.ga K "Writer") "take") fd := T.says.def_ 66 (d := d66) rfl
theorem me_Writer_end (T : Tx K mg) : Meth K (He.ga K "Writer") "end" (He.ma K (He.ga K "Writer") "end") := He.meth_ok (T.says.fact 157 (f := .meth "Writer" "end") rfl)
theorem fn_Writer_end (T : Tx K mg) : ∃ fd, FunD K "end" "Writer.end" (defArgs s_Writer_end) (defBody s_Writer_end) (defScope s_Writer_end) [] [] (He.ma K (He.ga K "Writer") "end") fd := T.says.def_ 67 (d := d67) rfl
theorem g_Reader (T : Tx K mg) : mg "Reader" = some (.ref (He.ga K "Reader")) := T.glo (T.says.fact 158 (f := .glo "Reader") rfl)
theorem cl_Reader (T : Tx K mg) : Cls K (He.ga K "Reader") := He.cls_ok (T.says.fact 159 (f := .cls "Reader") rfl)
theorem mk_Reader (T : Tx K mg) : Mk K (He.ga K "Reader") (He.ma K (He.ga K "Reader") "__init__") := He.mkr_ok (T.says.fact 160 (f := .mkr "Reader") rfl)
theorem no_Reader_parts (T : Tx K mg) : NoAttr K (He.ga K "Reader") "parts" := He.noat_ok (T.says.fact 161 (f := .noat "Reader" "parts") rfl)
theorem no_Reader_fault (T : Tx K mg) : NoAttr K (He.ga K "Reader") "fault" := He.noat_ok (T.says.fact 162 (f := .noat "Reader" "fault") rfl)
theorem me_Reader_init (T : Tx K mg) : Meth K (He.ga K "Reader") "__init__" (He.ma K (He.ga K "Reader") "__init__") := He.meth_ok (T.says.fact 163 (f := .meth "Reader" "__init__") rfl)
theorem fn_Reader_init (T : Tx K mg) : ∃ fd, FunD K "__init__" "Reader.__init__" (defArgs s_Reader_init) (defBody s_Reader_init) (defScope s_Reader_init) [] [] (He.ma K (He.ga K "Reader") "__init__") fd := T.says.def_ 68 (d := d68) rfl
theorem me_Reader_one (T : Tx K mg) : Meth K (He.ga K "Reader") "one" (He.ma K (He.ga K "Reader") "one") := He.meth_ok (T.says.fact 164 (f := .meth "Reader" "one") rfl)
theorem fn_Reader_one (T : Tx K mg) : ∃ fd, FunD K "one" "Reader.one" (defArgs s_Reader_one) (defBody s_Reader_one) (defScope s_Reader_one) [] [] (He.ma K (He.ga K "Reader") "one") fd := T.says.def_ 69 (d := d69) rfl
theorem me_Reader_take (T : Tx K mg) : Meth K (He.ga K "Reader") "take" (He.ma K (He.ga K "Reader") "take") := He.meth_ok (T.says.fact 165 (f := .meth "Reader" "take") rfl)
theorem fn_Reader_take (T : Tx K mg) : ∃ fd, FunD K "take" "Reader.take" (defArgs s_Reader_take) (defBody s_Reader_take) (defScope s_Reader_take) [] [] (He.ma K (He.ga K "Reader") "take") fd := T.says.def_ 70 (d := d70) rfl
theorem me_Reader_end (T : Tx K mg) : Meth K (He.ga K "Reader") "end" (He.ma K (He.ga K "Reader") "end") := He.meth_ok (T.says.fact 166 (f := .meth "Reader" "end") rfl)
theorem fn_Reader_end (T : Tx K mg) : ∃ fd, FunD K "end" "Reader.end" (defArgs s_Reader_end) (defBody s_Reader_end) (defScope s_Reader_end) [] [] (He.ma K (He.ga K "Reader") "end") fd := T.says.def_ 71 (d := d71) rfl
theorem me_Reader_closing (T : Tx K mg) : Meth K (He.ga K "Reader") "closing" (He.ma K (He.ga K "Reader") "closing") := He.meth_ok (T.says.fact 167 (f := .meth "Reader" "closing") rfl)
theorem fn_Reader_closing (T : Tx K mg) : ∃ fd, FunD K "closing" "Reader.closing" (defArgs s_Reader_closing) (defBody s_Reader_closing) (defScope s_Reader_closing) [] [] (He.ma K (He.ga K "Reader") "closing") fd := T.says.def_ 72 (d := d72) rfl
theorem g_FlowError (T : Tx K mg) : mg "FlowError" = some (.ref (He.ga K "FlowError")) := T.glo (T.says.fact 168 (f := .glo "FlowError") rfl)
theorem g_BadLayer (T : Tx K mg) : mg "BadLayer" = some (.ref (He.ga K "BadLayer")) := T.glo (T.says.fact 169 (f := .glo "BadLayer") rfl)
theorem xc_BadLayer (T : Tx K mg) : PySem.W.excIn K (He.ga K "BadLayer") He.veBase "ValueError.__new__" = true ∧ PySem.W.keepIn K (.ref (He.ga K "BadLayer")) = true ∧ PySem.W.subIn K (.ref (He.ga K "BadLayer")) (.type "BaseException") = some true ∧ PySem.W.typeIn K (.ref (He.ga K "BadLayer")) = some (.type "type") := He.exc_ok (T.says.fact 170 (f := .exc "BadLayer") rfl)
theorem g_Wrong (T : Tx K mg) : mg "Wrong" = some (.ref (He.ga K "Wrong")) := T.glo (T.says.fact 171 (f := .glo "Wrong") rfl)
theorem no_Wrong_place (T : Tx K mg) : PySem.W.findIn K (.ref (He.ga K "Wrong")) "place" = some none := He.noat_ok (T.says.fact 172 (f := .noat "Wrong" "place") rfl)
theorem me_Wrong_init (T : Tx K mg) : Meth K (He.ga K "Wrong") "__init__" (He.ma K (He.ga K "Wrong") "__init__") := He.meth_ok (T.says.fact 173 (f := .meth "Wrong" "__init__") rfl)
theorem fn_Wrong_init (T : Tx K mg) : ∃ fd, FunD K "__init__" "Wrong.__init__" (defArgs s_Wrong_init) (defBody s_Wrong_init) (defScope s_Wrong_init) [] [] (He.ma K (He.ga K "Wrong") "__init__") fd := T.says.def_ 73 (d := d73) rfl
theorem g_Cut (T : Tx K mg) : mg "Cut" = some (.ref (He.ga K "Cut")) := T.glo (T.says.fact 174 (f := .glo "Cut") rfl)
theorem xc_Cut (T : Tx K mg) : PySem.W.excIn K (He.ga K "Cut") He.veBase "ValueError.__new__" = true ∧ PySem.W.keepIn K (.ref (He.ga K "Cut")) = true ∧ PySem.W.subIn K (.ref (He.ga K "Cut")) (.type "BaseException") = some true ∧ PySem.W.typeIn K (.ref (He.ga K "Cut")) = some (.type "type") := He.exc_ok (T.says.fact 175 (f := .exc "Cut") rfl)
theorem xm_Wrong_Wrong (T : Tx K mg) : PySem.W.exmOne K (.ref (He.ga K "Wrong")) (.ref (He.ga K "Wrong")) = some true := He.exm_ok (T.says.fact 176 (f := .exm "Wrong" "Wrong" true) rfl)
theorem xm_Cut_Wrong (T : Tx K mg) : PySem.W.exmOne K (.ref (He.ga K "Cut")) (.ref (He.ga K "Wrong")) = some false := He.exm_ok (T.says.fact 177 (f := .exm "Cut" "Wrong" false) rfl)
theorem xm_Cut_Cut (T : Tx K mg) : PySem.W.exmOne K (.ref (He.ga K "Cut")) (.ref (He.ga K "Cut")) = some true := He.exm_ok (T.says.fact 178 (f := .exm "Cut" "Cut" true) rfl)
theorem xm_BadLayer_FlowError (T : Tx K mg) : PySem.W.exmOne K (.ref (He.ga K "BadLayer")) (.ref (He.ga K "FlowError")) = some true := He.exm_ok (T.says.fact 179 (f := .exm "BadLayer" "FlowError" true) rfl)
theorem c_PRIME (T : Tx K mg) : ∃ t, mg "PRIME" = some (.int 65521 t) := T.int (T.says.fact 180 (f := .int "PRIME" 65521) rfl)
theorem c_FACTOR (T : Tx K mg) : ∃ t, mg "FACTOR" = some (.int 257 t) := T.int (T.says.fact 181 (f := .int "FACTOR" 257) rfl)
theorem c_LONGEST (T : Tx K mg) : ∃ t, mg "LONGEST" = some (.int 255 t) := T.int (T.says.fact 182 (f := .int "LONGEST" 255) rfl)
theorem g_POWERS (T : Tx K mg) : mg "POWERS" = some (.ref (He.ga K "POWERS")) := T.glo (T.says.fact 183 (f := .glo "POWERS") rfl)
theorem g_SIGNS (T : Tx K mg) : mg "SIGNS" = some (.ref (He.ga K "SIGNS")) := T.glo (T.says.fact 184 (f := .glo "SIGNS") rfl)
theorem c_MOST (T : Tx K mg) : ∃ t, mg "MOST" = some (.int 8 t) := T.int (T.says.fact 185 (f := .int "MOST" 8) rfl)
theorem oex_Wrong (T : Tx K mg) : OexC K (He.ga K "Wrong") := oexB_ok (He.ba T.more).1
theorem xf_Wrong (T : Tx K mg) : XfC K (He.ga K "Wrong") := xfB_ok (He.ba (He.ba T.more).2).1
theorem t_POWERS (T : Tx K mg) : ∀ H : Hp, SqT K H (He.ga K "POWERS") (powersT.map V.int) := fun H => dvInts powersT ▸ He.tupB_ok (He.ba (He.ba (He.ba T.more).2).2).1 H
theorem nd_SIGNS (T : Tx K mg) : ∃ o, K.lookup (He.ga K "SIGNS") = some o ∧ o.cls = .type "tuple" ∧ o.dict = none := tupNB_ok (He.ba (He.ba (He.ba (He.ba T.more).2).2).2).1
theorem t_SIGNS (T : Tx K mg) : ∀ H : Hp, SqT K H (He.ga K "SIGNS") (signsT.map V.int) := fun H => dvInts signsT ▸ He.tupB_ok (He.ba (He.ba (He.ba (He.ba T.more).2).2).2).2 H
end
end Flow
namespace Flow
open PySem PySem.Spec PyProof.Rows L2
abbrev R : PySem.W.OpenRow := PySem.W.OpenLaw.row PySem.Challenge.rw_flowstack_k14_whole_faults_in_pieces
abbrev hk : PySem.W.Hook := He.hookX 5 fa fn [] [] exB
def ob (s : PySem.W.SharedT) : He.AlX := He.obsX 5 fa fn [] [] exB (HandSHeadRun.getT s)
theorem ob_eq (s : PySem.W.SharedT) : ob s = hk.obs s.abs := He.obsX_eq (HandSHeadRun.getT_eq s)
def loose0 : List PySem.Str := ["FlowError", "BadLayer", "Wrong", "Cut", "ChunksWriter", "ChunksReader", "checked", "check_bytes", "ChecksWriter", "ChecksReader", "EscapeWriter", "EscapeReader", "RunsWriter", "RunsReader", "SignsWriter", "SignsReader", "AddWriter", "AddReader", "FrontWriter", "FrontReader", "look_layer", "look_layers", "writer_of", "reader_of", "through", "Writer", "Reader", "written", "read", "_law_cell"]
def loose1 : List PySem.Str := ["_law_mix", "_law_whole", "_law_layer", "_law_layers", "_law_row", "_law_cuts", "_law_spoilt", "PRIME", "FACTOR", "LONGEST", "POWERS", "SIGNS", "MOST"]
def loose : List PySem.Str := loose0 ++ (loose1)
theorem run (w : World) : HandSHeadRun.RunEq R (PySem.W.view R.prog [50]) hk ob 20000 loose w := by
  intro os
  kernel_rfl
end Flow
local macro_rules | `(tactic| wtm_at "ne") => `(tactic| first
  | assumption
  | exact Ne.symm (by assumption)
  | exact L2.ne_of_none (by assumption) (by assumption)
  | exact Ne.symm (L2.ne_of_none (by assumption) (by assumption))
  | exact L2.ne_of (by assumption) (by assumption) (by with_unfolding_all (intro z; cases z)))
local macro_rules | `(tactic| wtm_at "pf") => `(tactic| first
  | (with_reducible exact Flow.pf_nil)
  | (with_reducible exact Flow.pf_hit)
  | (with_reducible exact Flow.pf_miss (by with_unfolding_all decide +kernel) (by wtm_at "pf")))
local macro_rules | `(tactic| wtm_at "h") => `(tactic| first
  | assumption
  | (with_reducible exact L2.upd_same)
  | (with_reducible refine Flow.upd_get ?_ ?_; (wtm_at "ne"); (wtm_at "h")))
local macro_rules | `(tactic| wtm_at "l") => `(tactic| first
  | exact L2.SqL.of (by wtm_at "h")
  | assumption)
local macro_rules | `(tactic| wtm_at "s") => `(tactic| first
  | exact Or.inl (by wtm_at "l")
  | exact Or.inr (by first | assumption | exact L2.SqT.of (by wtm_at "h")))
local macro_rules | `(tactic| wtm_at "sz") => `(tactic| first
  | (exact Flow.sz1 (by first | decide | (simp; omega) | simp))
  | omega)
local macro_rules | `(tactic| wtm_at "x1") => `(tactic| first
  | (with_reducible refine Flow.x_seq ?_; dsimp only)
  | (with_reducible refine Flow.x_asg ?_)
  | (with_reducible refine Flow.x_gName ?_; try dsimp only [List.set])
  | (with_reducible show L2.tVar _ _ _ _; with_reducible refine Flow.x_var (by with_unfolding_all rfl) ?_)
  | (with_reducible refine Flow.x_c ?_)
  | (with_reducible refine Flow.x_fld ?_)
  | (with_reducible show Flow.rFld _ _ _ _ _; with_reducible refine Flow.x_rFld (by wtm_at "h") (by wtm_at "cls") (by wtm_at "noat") (by with_unfolding_all rfl) ?_)
  | (with_reducible refine Flow.x_sFld ?_; try dsimp only)
  | (with_reducible show Flow.rSFld _ _ _ _ _ _; with_reducible refine Flow.x_rSFld (by wtm_at "h") (by wtm_at "cls") (by wtm_at "noat") (by first | decide | (simp; omega) | simp) (by wtm_at "pf") ?_)
  | (with_reducible refine Flow.x_op ?_)
  | (with_reducible refine Flow.x_un ?_)
  | (with_reducible refine Flow.x_rI0 ?_)
  | (with_reducible refine Flow.x_rU ?_)
  | (with_reducible show L2.rI _ _ _ _ _ _; with_reducible refine Flow.x_rI (by wtm_at "dv") ?_)
  | (with_reducible refine Flow.x_eqI ?_)
  | (with_reducible refine Flow.x_neI ?_)
  | (with_reducible refine Flow.x_eqS ?_)
  | (with_reducible refine Flow.x_neS ?_)
  | (with_reducible refine Flow.x_isN ?_)
  | (with_reducible refine Flow.x_notN ?_)
  | (with_reducible refine Flow.x_test ?_)
  | (with_reducible refine Flow.x_B ?_)
  | (with_reducible refine Flow.x_rBl ?_)
  | (with_reducible refine Flow.x_rBV ?_)
  | (with_reducible refine Flow.x_tru ?_)
  | (with_reducible refine Flow.x_not ?_)
  | (with_reducible refine Flow.x_andV ?_)
  | (with_reducible refine Flow.x_orV ?_)
  | (with_reducible refine Flow.x_notV ?_)
  | (with_reducible refine Flow.x_rAndV ?_)
  | (with_reducible refine Flow.x_rOrV ?_)
  | (with_reducible refine Flow.x_rNotV ?_)
  | (with_reducible refine Flow.x_if ?_)
  | (with_reducible refine Flow.x_chain ?_)
  | (with_reducible refine Flow.x_rChain ?_)
  | (with_reducible refine Flow.x_nil ?_)
  | (with_reducible refine Flow.x_cons ?_)
  | (with_reducible refine Flow.x_lst ?_)
  | (with_reducible refine Flow.x_tup ?_)
  | (with_reducible show Flow.rLst _ _ _; with_reducible refine Flow.x_rLst (by wtm_at "sz") ?_)
  | (with_reducible show Flow.rTup _ _ _; with_reducible refine Flow.x_rTup (by wtm_at "sz") ?_)
  | (with_reducible refine Flow.x_cb ?_)
  | (with_reducible show Flow.rLen _ _ _ _; with_reducible refine Flow.x_len (by wtm_at "s") ?_)
  | (with_reducible show Flow.rListOf _ _ _ _; with_reducible refine Flow.x_listOf (by wtm_at "s") ?_)
  | (with_reducible refine Flow.x_max2 ?_)
  | (with_reducible refine Flow.x_min2 ?_)
  | (with_reducible refine Flow.x_bm ?_)
  | (with_reducible refine Flow.x_bm0 ?_)
  | (with_reducible show Flow.rTy _ _ _ _ _ _ _ _; with_reducible refine Flow.x_tyL (by wtm_at "h") ?_)
  | (with_reducible show Flow.rTy0 _ _ _ _ _ _; with_reducible refine Flow.x_tyL0 (by wtm_at "h") ?_)
  | (with_reducible show L2.rAppend _ _ _ _; with_reducible refine Flow.x_append (by wtm_at "h") (by wtm_at "szl") ?_)
  | (with_reducible show L2.rExtend _ _ _ _; with_reducible refine Flow.x_extend (by wtm_at "h") (by wtm_at "h") (by wtm_at "szl") ?_)
  | (with_reducible show L2.rCat _ _ _ _; with_reducible refine Flow.x_cat (by wtm_at "h") (by wtm_at "h") (by wtm_at "szl") ?_)
  | (with_reducible refine Flow.x_sl ?_)
  | (with_reducible refine Flow.x_noPart ?_)
  | (with_reducible refine Flow.x_part ?_)
  | (with_reducible refine Flow.x_rPart ?_)
  | (with_reducible show L2.rSlL _ _ _ _ _ _; with_reducible refine Flow.x_slL (by wtm_at "l") ?_)
  | (with_reducible refine Flow.x_next ?_; try dsimp only)
  | (with_reducible refine Flow.x_drop ?_; try dsimp only)
  | (with_reducible refine Flow.x_ret ?_; try dsimp only)
  | (with_reducible refine Flow.x_retN ?_; try dsimp only)
  | (with_reducible refine Flow.x_ifS ?_)
  | (with_reducible refine Flow.x_fn ?_)
  | (with_reducible refine Flow.x_mm ?_)
  | (with_reducible refine Flow.x_mk ?_)
  | (with_reducible refine Flow.x_mu ?_)
  | (with_reducible refine L2.iteF ?_)
  | (with_reducible refine L2.iteT ?_)
  | (with_reducible refine Flow.x_forL ?_)
  | (with_reducible refine Flow.x_forR1 ?_)
  | (with_reducible refine Flow.x_forRev ?_)
  | (with_reducible refine Flow.x_lcL ?_)
  | (with_reducible refine Flow.x_lcR ?_)
  | (with_reducible refine Flow.x_lcT ?_)
  | (with_reducible refine Flow.x_lstRg1 ?_)
  | (with_reducible refine Flow.x_rRg ?_)
  | (with_reducible show Flow.rMm _ _ _ _ _ _ _ _ _; with_reducible refine Flow.x_rMm (by wtm_at "h") (by first | rfl | assumption) (by with_unfolding_all rfl) ?_))
local macro_rules | `(tactic| wtm_at "only") => `(tactic| repeat first
  | (with_reducible exact Flow.Only'.refl)
  | assumption
  | (with_reducible refine Flow.Only'.put0 ?_ (by assumption))
  | (with_reducible refine Flow.Only'.put ?_ (by simp)))
local macro_rules | `(tactic| wtm_at "nw") => `(tactic| repeat (first
  | (obtain ⟨_, hl⟩ := Flow.upd_none hl)))
local macro_rules | `(tactic| wtm_at "x") => `(tactic| repeat wtm_at "x1")
local macro_rules | `(tactic| wtm_at "if") => `(tactic| first
  | refine Flow.ite_d (fun hc => ?_) (fun hc => ?_)
  | refine Flow.ite_nd (fun hc => ?_) (fun hc => ?_)
  | refine Flow.ite_nb (fun hc => ?_) (fun hc => ?_)
  | refine Flow.ite_b (fun hc => ?_) (fun hc => ?_))
local macro_rules | `(tactic| wtm_at "dv") => `(tactic| with_unfolding_all (first
  | assumption
  | (show (0 : Int) < _; decide)
  | (show (0 : Int) < _; omega)
  | exact ⟨by decide, by decide⟩
  | (show _ ≠ (0 : Int); (try simp only [Flow.iV_length]); omega)
  | exact ⟨by omega, by omega⟩
  | (exact Or.inr ⟨by decide, by decide⟩)
  | (exact Or.inl ⟨by decide, by decide⟩)
  | (exact Or.inl ⟨by omega, by omega⟩)
  | (exact Or.inr ⟨by omega, by omega⟩)))
local macro_rules | `(tactic| wtm_at "szl") => `(tactic| first
  | assumption
  | (simp only [L2.sizeLine_eq] at *; omega)
  | (simp only [PySem.sizeLine_eq] at *; omega))
local macro_rules | `(tactic| wtm_at "cls") => `(tactic| first
  | (with_reducible exact Flow.cl_ChunksWriter (by assumption))
  | (with_reducible exact Flow.cl_ChunksReader (by assumption))
  | (with_reducible exact Flow.cl_ChecksWriter (by assumption))
  | (with_reducible exact Flow.cl_ChecksReader (by assumption))
  | (with_reducible exact Flow.cl_EscapeWriter (by assumption))
  | (with_reducible exact Flow.cl_EscapeReader (by assumption))
  | (with_reducible exact Flow.cl_RunsWriter (by assumption))
  | (with_reducible exact Flow.cl_RunsReader (by assumption))
  | (with_reducible exact Flow.cl_SignsWriter (by assumption))
  | (with_reducible exact Flow.cl_SignsReader (by assumption))
  | (with_reducible exact Flow.cl_AddWriter (by assumption))
  | (with_reducible exact Flow.cl_AddReader (by assumption))
  | (with_reducible exact Flow.cl_FrontWriter (by assumption))
  | (with_reducible exact Flow.cl_FrontReader (by assumption))
  | (with_reducible exact Flow.cl_Writer (by assumption))
  | (with_reducible exact Flow.cl_Reader (by assumption)))
local macro_rules | `(tactic| wtm_at "noat") => `(tactic| first
  | (with_reducible exact Flow.no_ChunksWriter_size (by assumption))
  | (with_reducible exact Flow.no_ChunksWriter_held (by assumption))
  | (with_reducible exact Flow.no_ChunksReader_size (by assumption))
  | (with_reducible exact Flow.no_ChunksReader_done (by assumption))
  | (with_reducible exact Flow.no_ChunksReader_left (by assumption))
  | (with_reducible exact Flow.no_ChunksReader_is_last (by assumption))
  | (with_reducible exact Flow.no_ChecksWriter_size (by assumption))
  | (with_reducible exact Flow.no_ChecksWriter_many (by assumption))
  | (with_reducible exact Flow.no_ChecksWriter_check (by assumption))
  | (with_reducible exact Flow.no_ChecksReader_size (by assumption))
  | (with_reducible exact Flow.no_ChecksReader_done (by assumption))
  | (with_reducible exact Flow.no_ChecksReader_check (by assumption))
  | (with_reducible exact Flow.no_ChecksReader_held (by assumption))
  | (with_reducible exact Flow.no_EscapeWriter_marks (by assumption))
  | (with_reducible exact Flow.no_EscapeReader_marks (by assumption))
  | (with_reducible exact Flow.no_EscapeReader_done (by assumption))
  | (with_reducible exact Flow.no_EscapeReader_marked (by assumption))
  | (with_reducible exact Flow.no_RunsWriter_many (by assumption))
  | (with_reducible exact Flow.no_RunsWriter_byte (by assumption))
  | (with_reducible exact Flow.no_RunsReader_done (by assumption))
  | (with_reducible exact Flow.no_RunsReader_many (by assumption))
  | (with_reducible exact Flow.no_RunsReader_last (by assumption))
  | (with_reducible exact Flow.no_SignsWriter_many (by assumption))
  | (with_reducible exact Flow.no_SignsWriter_value (by assumption))
  | (with_reducible exact Flow.no_SignsReader_done (by assumption))
  | (with_reducible exact Flow.no_SignsReader_many (by assumption))
  | (with_reducible exact Flow.no_SignsReader_value (by assumption))
  | (with_reducible exact Flow.no_AddWriter_key (by assumption))
  | (with_reducible exact Flow.no_AddWriter_at (by assumption))
  | (with_reducible exact Flow.no_AddReader_key (by assumption))
  | (with_reducible exact Flow.no_AddReader_at (by assumption))
  | (with_reducible exact Flow.no_FrontWriter_row (by assumption))
  | (with_reducible exact Flow.no_FrontReader_row (by assumption))
  | (with_reducible exact Flow.no_Writer_parts (by assumption))
  | (with_reducible exact Flow.no_Reader_parts (by assumption))
  | (with_reducible exact Flow.no_Reader_fault (by assumption)))

namespace Flow
open PySem PySem.Spec PyProof.Rows L2
/-! ### writers as objects -/
/-- a writer's object at p, with what it owns at l -/
def WAt (K : PySem.W.Frag) (H : Hp) (p l : Addr) : WSt → Prop
  | .add key at_ => ∃ dx, H p = some (.ins (He.ga K "AddWriter") dx [("key", .ref l), ("at", .int at_)]) ∧ H l = some (.lst (iV key))
  | .front row => ∃ dx, H p = some (.ins (He.ga K "FrontWriter") dx [("row", .ref l)]) ∧ H l = some (.lst (iV row))
  | .esc e => ∃ dx, H p = some (.ins (He.ga K "EscapeWriter") dx [("marks", .ref l)]) ∧ H l = some (.lst (iV (marksOf e)))
  | .runs many byte => H p = some (.ins (He.ga K "RunsWriter") l [("many", .int many), ("byte", .int byte)]) ∧ H l = some (.own p)
  | .chunks size held => ∃ dx, H p = some (.ins (He.ga K "ChunksWriter") dx [("size", .int size), ("held", .ref l)]) ∧ H l = some (.lst (iV held))
  | .checks size many check => H p = some (.ins (He.ga K "ChecksWriter") l [("size", .int size), ("many", .int many), ("check", .int check)]) ∧ H l = some (.own p)
  | .signs many value => H p = some (.ins (He.ga K "SignsWriter") l [("many", .int many), ("value", .int value)]) ∧ H l = some (.own p)
def WName : WSt → Str
  | .add _ _ => "AddWriter"
  | .front _ => "FrontWriter"
  | .esc _ => "EscapeWriter"
  | .runs _ _ => "RunsWriter"
  | .chunks _ _ => "ChunksWriter"
  | .checks _ _ _ => "ChecksWriter"
  | .signs _ _ => "SignsWriter"
/-- the promise of a writer's take, of those whose state is of some kind -/
def spWTake (K : PySem.W.Frag) (is : WSt → Prop) : Sp := fun vs H Q _ => ∃ (p l : Addr) (st : WSt) (b : Int), vs = [.ref p, .int b] ∧ is st ∧ WAt K H p l st ∧ WOk st ∧ By b ∧
  ∀ (H' : Hp) (l' r : Addr), WAt K H' p l' (wtake st b).2 → (l' = l ∨ H l' = none) → H r = none → H' r = some (.lst (iV (wtake st b).1)) → Only' [p, l] H H' → Q (.ref r) H'
def spWEnd (K : PySem.W.Frag) (is : WSt → Prop) : Sp := fun vs H Q _ => ∃ (p l : Addr) (st : WSt), vs = [.ref p] ∧ is st ∧ WAt K H p l st ∧ WOk st ∧
  ∀ (H' : Hp) (l' r : Addr), WAt K H' p l' (wended st) → (l' = l ∨ H l' = none) → H r = none → H' r = some (.lst (iV (wend st))) → Only' [p, l] H H' → Q (.ref r) H'
/-- .. whatever the state -/
def spWEndG (K : PySem.W.Frag) (is : WSt → Prop) : Sp := fun vs H Q _ => ∃ (p l : Addr) (st : WSt), vs = [.ref p] ∧ is st ∧ WAt K H p l st ∧
  ∀ (H' : Hp) (l' r : Addr), WAt K H' p l' (wended st) → (l' = l ∨ H l' = none) → H r = none → H' r = some (.lst (iV (wend st))) → Only' [p, l] H H' → Q (.ref r) H'
theorem spWEndG.to {K : PySem.W.Frag} {is : WSt → Prop} (vs : List V) (H : Hp) (Q : VK) (E : XK) (h : spWEnd K is vs H Q E) : spWEndG K is vs H Q E := by
  obtain ⟨p, l, st, e, hs, hw, _, q⟩ := h
  exact ⟨p, l, st, e, hs, hw, q⟩
/-- C(a, ..) makes a writer -/
def spWInit (K : PySem.W.Frag) (C : Addr) (ok : List V → Hp → WSt → Prop) : Sp := fun vs H Q _ => ∃ (p dx : Addr) (a : List V) (st : WSt), vs = .ref p :: a ∧ H p = some (.ins C dx []) ∧ H dx = some (.own p) ∧ ok a H st ∧
  ∀ (H' : Hp) (l : Addr), WAt K H' p l st → (l = dx ∨ H l = none) → Only' [p] H H' → Q .non H'
def isAdd : WSt → Prop | .add _ _ => True | _ => False
def isFront : WSt → Prop | .front _ => True | _ => False
def isEsc : WSt → Prop | .esc _ => True | _ => False
def isRuns : WSt → Prop | .runs _ _ => True | _ => False
def isChunks : WSt → Prop | .chunks _ _ => True | _ => False
def isChecks : WSt → Prop | .checks _ _ _ => True | _ => False
def isSigns : WSt → Prop | .signs _ _ => True | _ => False
theorem rgV256 : rgV 0 256 = iV range256 := by
  unfold rgV iV range256
  rw [List.map_map]
  have e : (256 - 0 : Int).toNat = 256 := by decide
  rw [e]
  refine List.map_congr_left fun i _ => ?_
  show V.int (0 + (i : Int)) = V.int (Int.ofNat i)
  rw [Int.zero_add]
  rfl
theorem fmod_pos {a n : Int} (h : 0 ≤ n) : a.fmod n = a % n := Int.fmod_eq_emod_of_nonneg a h
theorem fdiv_pos {a n : Int} (h : 0 ≤ n) : a.fdiv n = a / n := Int.fdiv_eq_ediv_of_nonneg a h
section
variable {P : Program} {w : World} {K : PySem.W.Frag} {mg : Str → Option Value} {base : Heap}
/-! ### AddWriter -/
def spTurned (K : PySem.W.Frag) (C : Addr) (f : Int → Int → Int) : Sp := fun vs H Q _ => ∃ (p l dx : Addr) (key : Row) (at_ b : Int), vs = [.ref p, .int b] ∧ H p = some (.ins C dx [("key", .ref l), ("at", .int at_)]) ∧ H l = some (.lst (iV key)) ∧
  0 ≤ at_ ∧ at_ < (key.length : Int) ∧ Q (.int (f b (gI key at_))) H
theorem ok_AddWriter_turned (T : Tx K mg) : DefOk P w K mg base 1 (He.ma K (He.ga K "AddWriter") "turned") ["self", "byte"] (spTurned K (He.ga K "AddWriter") fun b k => (b + k) % 256) := by
  refine def_ok (N := n_AddWriter_turned) (fn_AddWriter_turned T) sc_AddWriter_turned (fun _ _ _ _ _ _ us hl => match us, hl with | [_, _], _ => rfl) (fun vs H Q E h => ?_) (fun cdv A outer s H vs Q E hr h => ?_)
  · obtain ⟨p, l, dx, key, at_, b, rfl, _⟩ := h
    rfl
  · obtain ⟨p, l, dx, key, at_, b, rfl, hp, hl, h0, h1, q⟩ := h
    refine ⟨_, [_, _], (pss_one (ps_ret (pe_op op_mod (pe_op op_add (pv 1) (pe_ix ix_list (pe_fld (pv 0) rfl) (pe_fld (pv 0) rfl) (fun _ _ => rfl))) pe_int))), rfl, ?_⟩
    try dsimp only [cxOf]
    wtm_at "x"
    refine x_ixL (SqL.of hl) (gI_at h0 h1) ?_
    wtm_at "x"
    exact q
theorem ok_AddWriter_init (T : Tx K mg) : DefOk P w K mg base 1 (He.ma K (He.ga K "AddWriter") "__init__") ["self", "key"] (spWInit K (He.ga K "AddWriter") fun a H st => ∃ t key, a = [.ref t] ∧ st = .add key 0 ∧ SqT K H t (iV key)) := by
  refine def_ok (N := n_AddWriter_init) (fn_AddWriter_init T) sc_AddWriter_init (fun _ _ _ _ _ _ us hl => match us, hl with | [_, _], _ => rfl) (fun vs H Q E h => ?_) (fun cdv A outer s H vs Q E hr h => ?_)
  · obtain ⟨p, dx, a, st, rfl, _, _, ⟨t, key, rfl, _⟩, _⟩ := h
    rfl
  · obtain ⟨p, dx, a, st, rfl, hp, hd, ⟨t, key, rfl, rfl, ht⟩, q⟩ := h
    refine ⟨_, [_, _], (pss_cons (ps_fld (pv 0) (pe_callTy call_listS rfl (f_list T) (by decide +kernel) (pa_cons (pv 1) pa_nil)) rfl)
      (pss_one (ps_fld (pv 0) pe_int rfl))), rfl, ?_⟩
    try dsimp only [cxOf]
    wtm_at "x"
    intro l hl
    wtm_at "x"
    exact q _ l ⟨dx, by wtm_at "h", by wtm_at "h"⟩ (Or.inr hl) (by wtm_at "only")
theorem ok_AddWriter_take (T : Tx K mg) : DefOk P w K mg base 2 (He.ma K (He.ga K "AddWriter") "take") ["self", "byte"] (spWTake K isAdd) := by
  have M_AddWriter_turned := meth1 (cl_AddWriter T) (me_AddWriter_turned T) (ok_AddWriter_turned (P := P) (w := w) (base := base) T)
  refine def_ok (N := n_AddWriter_take) (fn_AddWriter_take T) sc_AddWriter_take (fun _ _ _ _ _ _ us hl => match us, hl with | [_, _], _ => rfl) (fun vs H Q E h => ?_) (fun cdv A outer s H vs Q E hr h => ?_)
  · obtain ⟨p, l, st, b, rfl, _⟩ := h
    rfl
  · obtain ⟨p, l, st, b, rfl, hst, hw, hk, hb, q⟩ := h
    cases st <;> simp only [isAdd] at hst
    rename_i key at_
    obtain ⟨dx, hp, hl⟩ := hw
    obtain ⟨k1, k2, k3, k4, k5⟩ := hk
    refine ⟨_, [_, _, _], (pss_cons (ps_set (i := 2) sc_AddWriter_take.nd rfl (Or.inl rfl) (pe_mm M_AddWriter_turned (hr.mono (by first | decide | omega)) (fun _ => passE) (pv 0) (pa_cons (pv 1) pa_nil)))
      (pss_cons (ps_fld (pv 0) (pe_op op_modN (pe_op op_add (pe_fld (pv 0) rfl) pe_int) (pe_callB call_lenS rfl (f_len T) (by decide +kernel) (pa_cons (pe_fld (pv 0) rfl) pa_nil))) rfl)
      (pss_one (ps_ret (pe_lst (pa_cons (pv 2) pa_nil)))))), rfl, ?_⟩
    try dsimp only [cxOf]
    wtm_at "x"
    refine ⟨p, l, dx, key, at_, b, rfl, hp, hl, k4, k5, ?_⟩
    wtm_at "x"
    intro r hr
    obtain ⟨r1, hr⟩ := upd_none hr
    refine q _ l r ⟨dx, ?_, by wtm_at "h"⟩ (Or.inl rfl) hr upd_same (by wtm_at "only")
    have e : (at_ + 1).fmod ((iV key).length : Int) = (at_ + 1) % (key.length : Int) := by rw [iV_length, fmod_pos (by omega)]
    rw [← e]
    wtm_at "h"
theorem ok_AddWriter_end (T : Tx K mg) : DefOk P w K mg base 1 (He.ma K (He.ga K "AddWriter") "end") ["self"] (spWEnd K isAdd) := by
  refine def_ok (N := n_AddWriter_end) (fn_AddWriter_end T) sc_AddWriter_end (fun _ _ _ _ _ _ us hl => match us, hl with | [_], _ => rfl) (fun vs H Q E h => ?_) (fun cdv A outer s H vs Q E hr h => ?_)
  · obtain ⟨p, l, st, rfl, _⟩ := h
    rfl
  · obtain ⟨p, l, st, rfl, hst, hw, hk, q⟩ := h
    cases st <;> simp only [isAdd] at hst
    obtain ⟨dx, hp, hl⟩ := hw
    refine ⟨_, [_], (pss_one (ps_ret (pe_lst pa_nil))), rfl, ?_⟩
    try dsimp only [cxOf]
    wtm_at "x"
    intro r hr
    exact q _ l r ⟨dx, by wtm_at "h", by wtm_at "h"⟩ (Or.inl rfl) hr upd_same (by wtm_at "only")
/-! ### FrontWriter -/
theorem ok_FrontWriter_init (T : Tx K mg) : DefOk P w K mg base 1 (He.ma K (He.ga K "FrontWriter") "__init__") ["self"] (spWInit K (He.ga K "FrontWriter") fun a H st => a = [] ∧ st = .front range256) := by
  refine def_ok (N := n_FrontWriter_init) (fn_FrontWriter_init T) sc_FrontWriter_init (fun _ _ _ _ _ _ us hl => match us, hl with | [_], _ => rfl) (fun vs H Q E h => ?_) (fun cdv A outer s H vs Q E hr h => ?_)
  · obtain ⟨p, dx, a, st, rfl, _, _, ⟨rfl, _⟩, _⟩ := h
    rfl
  · obtain ⟨p, dx, a, st, rfl, hp, hd, ⟨rfl, rfl⟩, q⟩ := h
    refine ⟨_, [_], (pss_one (ps_fld (pv 0) (pe_listRg rfl rfl (f_list T) (prg_1 rfl (f_range T) pe_int)) rfl)), rfl, ?_⟩
    try dsimp only [cxOf]
    wtm_at "x"
    refine ⟨RgOk.of_le (by decide) (by decide) (by decide) (by decide), fun l hl => ?_⟩
    rw [rgV256]
    wtm_at "x"
    exact q _ l ⟨dx, by wtm_at "h", by wtm_at "h"⟩ (Or.inr hl) (by wtm_at "only")
def spToFront (K : PySem.W.Frag) (C : Addr) : Sp := fun vs H Q _ => ∃ (p l dx : Addr) (row : Row) (i : Int), vs = [.ref p, .int i] ∧ H p = some (.ins C dx [("row", .ref l)]) ∧ H l = some (.lst (iV row)) ∧
  0 ≤ i ∧ i < (row.length : Int) ∧ row.length = 256 ∧ ∀ H', H' l = some (.lst (iV (moveFront row i.toNat))) → Only' [l] H H' → Q (.int (gI row i)) H'
theorem ok_FrontWriter_to_front (T : Tx K mg) : DefOk P w K mg base 1 (He.ma K (He.ga K "FrontWriter") "to_front") ["self", "place"] (spToFront K (He.ga K "FrontWriter")) := by
  refine def_ok (N := n_FrontWriter_to_front) (fn_FrontWriter_to_front T) sc_FrontWriter_to_front (fun _ _ _ _ _ _ us hl => match us, hl with | [_, _], _ => rfl) (fun vs H Q E h => ?_) (fun cdv A outer s H vs Q E hr h => ?_)
  · obtain ⟨p, l, dx, row, i, rfl, _⟩ := h
    rfl
  · obtain ⟨p, l, dx, row, i, rfl, hp, hl, h0, h1, h2, q⟩ := h
    have hpl : p ≠ l := ne_of hp hl (by intro z; cases z)
    refine ⟨_, [_, _, _], (pss_cons (ps_set (i := 2) sc_FrontWriter_to_front.nd rfl (Or.inl rfl) (pe_bm PySem.F.plainAttrs_list PySem.F.slot_list_pop PySem.F.type_list_pop mt_popAt (pe_fld (pv 0) rfl) (pa_cons (pv 1) pa_nil)))
      (pss_cons (ps_expr (pe_bm PySem.F.plainAttrs_list PySem.F.slot_list_insert PySem.F.type_list_insert mt_insertS (pe_fld (pv 0) rfl) (pa_cons pe_int (pa_cons (pv 2) pa_nil))))
      (pss_one (ps_ret (pv 2))))), rfl, ?_⟩
    try dsimp only [cxOf]
    wtm_at "x"
    refine x_popAt hl h0 h1 (by omega) ?_
    wtm_at "x"
    refine x_insert0 upd_same (by rw [iV_length, List.length_eraseIdx, sizeLine_eq]; split <;> omega) ?_
    wtm_at "x"
    refine q _ ?_ (by wtm_at "only")
    rw [upd_same]
    rfl
theorem ok_FrontWriter_take (T : Tx K mg) : DefOk P w K mg base 2 (He.ma K (He.ga K "FrontWriter") "take") ["self", "byte"] (spWTake K isFront) := by
  have M_FrontWriter_to_front := meth1 (cl_FrontWriter T) (me_FrontWriter_to_front T) (ok_FrontWriter_to_front (P := P) (w := w) (base := base) T)
  refine def_ok (N := n_FrontWriter_take) (fn_FrontWriter_take T) sc_FrontWriter_take (fun _ _ _ _ _ _ us hl => match us, hl with | [_, _], _ => rfl) (fun vs H Q E h => ?_) (fun cdv A outer s H vs Q E hr h => ?_)
  · obtain ⟨p, l, st, b, rfl, _⟩ := h
    rfl
  · obtain ⟨p, l, st, b, rfl, hst, hw, hk, hb, q⟩ := h
    cases st <;> simp only [isFront] at hst
    rename_i row
    obtain ⟨dx, hp, hl⟩ := hw
    obtain ⟨k1, k2⟩ := hk
    have hm := k2 b hb
    have hlt : row.idxOf b < row.length := List.idxOf_lt_length_of_mem hm
    have hpl : p ≠ l := ne_of hp hl (by intro z; cases z)
    refine ⟨_, [_, _, _], (pss_cons (ps_set (i := 2) sc_FrontWriter_take.nd rfl (Or.inl rfl) (pe_bm PySem.F.plainAttrs_list PySem.F.slot_list_index PySem.F.type_list_index mt_index (pe_fld (pv 0) rfl) (pa_cons (pv 1) pa_nil)))
      (pss_cons (ps_expr (pe_mm M_FrontWriter_to_front (hr.mono (by first | decide | omega)) (fun _ => passE) (pv 0) (pa_cons (pv 2) pa_nil)))
      (pss_one (ps_ret (pe_lst (pa_cons (pv 2) pa_nil)))))), rfl, ?_⟩
    try dsimp only [cxOf]
    wtm_at "x"
    refine x_index (SqL.of hl) hm ?_
    wtm_at "x"
    refine ⟨p, l, dx, row, _, rfl, hp, hl, by omega, by omega, k1, fun H' h' o' => ?_⟩
    wtm_at "x"
    intro r hr
    have hp' := o' p _ hp (by simpa using hpl)
    have e : ((row.idxOf b : Int)).toNat = row.idxOf b := Int.toNat_natCast _
    rw [e] at h'
    have hr0 : H r = none := o'.free hr
    refine q _ l r ⟨dx, by wtm_at "h", by wtm_at "h"⟩ (Or.inl rfl) hr0 upd_same ?_
    exact Only'.put0 (o'.mono (by simp)) hr0
theorem ok_FrontWriter_end (T : Tx K mg) : DefOk P w K mg base 1 (He.ma K (He.ga K "FrontWriter") "end") ["self"] (spWEnd K isFront) := by
  refine def_ok (N := n_FrontWriter_end) (fn_FrontWriter_end T) sc_FrontWriter_end (fun _ _ _ _ _ _ us hl => match us, hl with | [_], _ => rfl) (fun vs H Q E h => ?_) (fun cdv A outer s H vs Q E hr h => ?_)
  · obtain ⟨p, l, st, rfl, _⟩ := h
    rfl
  · obtain ⟨p, l, st, rfl, hst, hw, hk, q⟩ := h
    cases st <;> simp only [isFront] at hst
    obtain ⟨dx, hp, hl⟩ := hw
    refine ⟨_, [_], (pss_one (ps_ret (pe_lst pa_nil))), rfl, ?_⟩
    try dsimp only [cxOf]
    wtm_at "x"
    intro r hr
    exact q _ l r ⟨dx, by wtm_at "h", by wtm_at "h"⟩ (Or.inl rfl) hr upd_same (by wtm_at "only")
end
end Flow

namespace Flow
open PySem PySem.Spec PyProof.Rows L2
theorem marks_eq (b : Int) : (List.range 4).map (fun (i : Nat) => V.int ((b + (i : Int)) % 256)) = iV (marksOf b) := by
  show [V.int ((b + ((0 : Nat) : Int)) % 256), V.int ((b + ((1 : Nat) : Int)) % 256), V.int ((b + ((2 : Nat) : Int)) % 256), V.int ((b + ((3 : Nat) : Int)) % 256)] = iV (marksOf b)
  have e : b + ((0 : Nat) : Int) = b := by omega
  rw [e]
  rfl
theorem marks_len (b : Int) : (marksOf b).length = 4 := rfl
section
variable {P : Program} {w : World} {K : PySem.W.Frag} {mg : Str → Option Value} {base : Heap}
/-! ### EscapeWriter -/
theorem ok_EscapeWriter_init (T : Tx K mg) : DefOk P w K mg base 1 (He.ma K (He.ga K "EscapeWriter") "__init__") ["self", "byte"] (spWInit K (He.ga K "EscapeWriter") fun a H st => ∃ e, a = [.int e] ∧ st = .esc e) := by
  refine def_ok (N := n_EscapeWriter_init) (fn_EscapeWriter_init T) sc_EscapeWriter_init (fun _ _ _ _ _ _ us hl => match us, hl with | [_, _], _ => rfl) (fun vs H Q E h => ?_) (fun cdv A outer s H vs Q E hr h => ?_)
  · obtain ⟨p, dx, a, st, rfl, _, _, ⟨e, rfl, _⟩, _⟩ := h
    rfl
  · obtain ⟨p, dx, a, st, rfl, hp, hd, ⟨e, rfl, rfl⟩, q⟩ := h
    refine ⟨_, [_, _, _], (pss_one (ps_fld (pv 0) (pe_lc (own := [("k", 2)]) (g := gName 2) (tt := tYes) rfl sc_EscapeWriter_init.nd (pi_range1 rfl (f_range T) (pa_cons pe_int pa_nil)) (blkOk_by (own := [("k", 2)]) (N := n_EscapeWriter_init) (sc := defScope s_EscapeWriter_init) (by decide +kernel)) (fun _ _ _ _ _ => pg_name (i := 2) sc_EscapeWriter_init.nd rfl (Or.inl rfl)) (fun _ _ _ _ _ => pts_nil) (fun _ _ _ _ _ => (pe_op op_mod (pe_op op_add (pv 1) (pv 2)) pe_int))) rfl)), rfl, ?_⟩
    try dsimp only [cxOf]
    wtm_at "x"
    refine x_rLcR (k := 4) (fun i => V.int ((e + (i : Int)) % 256)) rfl (by decide) (fun _ => rfl) (fun i H1 hi e1 Q' k => ?_) fun l H1 hl e1 h1 => ?_
    · wtm_at "x"
      exact k _ Only'.refl
    · rw [marks_eq] at h1
      wtm_at "x"
      have hp1 := e1 p _ hp (by simp)
      have hpl : p ≠ l := ne_of_none hp hl
      wtm_at "x"
      exact q _ l ⟨dx, by wtm_at "h", by wtm_at "h"⟩ (Or.inr hl) ((e1.mono (by simp)).put (by simp))
theorem ok_EscapeWriter_take (T : Tx K mg) : DefOk P w K mg base 2 (He.ma K (He.ga K "EscapeWriter") "take") ["self", "byte"] (spWTake K isEsc) := by
  refine def_ok (N := n_EscapeWriter_take) (fn_EscapeWriter_take T) sc_EscapeWriter_take (fun _ _ _ _ _ _ us hl => match us, hl with | [_, _], _ => rfl) (fun vs H Q E h => ?_) (fun cdv A outer s H vs Q E hr h => ?_)
  · obtain ⟨p, l, st, b, rfl, _⟩ := h
    rfl
  · obtain ⟨p, l, st, b, rfl, hst, hw, hk, hb, q⟩ := h
    cases st <;> simp only [isEsc] at hst
    rename_i e
    obtain ⟨dx, hp, hl⟩ := hw
    obtain ⟨he0, he1⟩ := id hk
    obtain ⟨hb0, hb1⟩ := hb
    have hpl : p ≠ l := ne_of hp hl (by intro z; cases z)
    refine ⟨_, [_, _], (pss_cons (ps_if (pt_cmpR op_in_seq (pv 1) (pe_slice sl_list (pe_fld (pv 0) rfl) po_none (po_some pe_int)) (by rfl)) (pss_one (ps_ret (pe_lst (pa_cons (pe_ix ix_list (pe_fld (pv 0) rfl) pe_int (fun _ _ => rfl)) (pa_cons (pe_ix ix_list (pe_fld (pv 0) rfl) (pe_op op_add pe_int (pe_bm PySem.F.plainAttrs_list PySem.F.slot_list_index PySem.F.type_list_index mt_index (pe_fld (pv 0) rfl) (pa_cons (pv 1) pa_nil))) (fun _ _ => rfl)) pa_nil))))) pss_nil)
      (pss_one (ps_ret (pe_lst (pa_cons (pv 1) pa_nil))))), rfl, ?_⟩
    try dsimp only [cxOf]
    wtm_at "x"
    intro s1 hs1
    have e1 : cutV (iV (marksOf e)) none (some 2) = iV ((marksOf e).take 2) := rfl
    rw [e1]
    refine x_inI (Or.inl (SqL.of upd_same)) ?_
    wtm_at "x"
    refine ite_d (fun hc => ?_) fun hc => ?_
    · have hc2 : b = e % 256 ∨ b = (e + 1) % 256 := by simpa [marksOf] using hc
      have hm : b ∈ marksOf e := List.mem_of_mem_take hc
      wtm_at "x"
      refine x_ixL (SqL.of (by wtm_at "h")) (gI_at (by decide) (by rw [marks_len]; decide)) ?_
      wtm_at "x"
      refine x_index (SqL.of (by wtm_at "h")) hm ?_
      wtm_at "x"
      have hx : (2 : Int) + ((marksOf e).idxOf b : Int) < 4 := by
        rcases hc2 with hc2 | hc2
        · have : (marksOf e).idxOf b = 0 := by rw [hc2]; simp [marksOf]
          omega
        · have : (marksOf e).idxOf b ≤ 1 := by
            rw [hc2]
            unfold marksOf
            rw [List.idxOf_cons]
            cases (e % 256 == (e + 1) % 256) <;> simp
          omega
      refine x_ixL (SqL.of (by wtm_at "h")) (gI_at (by omega) (by rw [marks_len]; omega)) ?_
      wtm_at "x"
      intro r hr
      obtain ⟨r1, hr0⟩ := upd_none hr
      refine q _ l r ⟨dx, by wtm_at "h", by wtm_at "h"⟩ (Or.inl rfl) hr0 ?_ (by wtm_at "only")
      rw [upd_same]
      have hout : (wtake (.esc e) b).1 = [gI (marksOf e) 1, gI (marksOf e) (2 + ((marksOf e).idxOf b : Int))] := by
        show escOut e b = _
        unfold escOut
        rcases hc2 with hc2 | hc2
        · have i0 : (marksOf e).idxOf b = 0 := by rw [hc2]; simp [marksOf]
          rw [if_pos hc2, i0]
          rfl
        · have ne : ¬ b = e % 256 := by omega
          have i1 : (marksOf e).idxOf b = 1 := by
            rw [hc2]
            unfold marksOf
            rw [List.idxOf_cons]
            have : (e % 256 == (e + 1) % 256) = false := by
              rw [beq_eq_false_iff_ne]
              omega
            rw [this]
            simp
          rw [if_neg ne, if_pos hc2, i1]
          rfl
      rw [hout]
      rfl
    · have hc2 : ¬ (b = e % 256 ∨ b = (e + 1) % 256) := by simpa [marksOf] using hc
      wtm_at "x"
      intro r hr
      obtain ⟨r1, hr0⟩ := upd_none hr
      refine q _ l r ⟨dx, by wtm_at "h", by wtm_at "h"⟩ (Or.inl rfl) hr0 ?_ (by wtm_at "only")
      rw [upd_same]
      have hout : (wtake (.esc e) b).1 = [b] := by
        show escOut e b = _
        unfold escOut
        rw [if_neg fun z => hc2 (Or.inl z), if_neg fun z => hc2 (Or.inr z)]
      rw [hout]
      rfl
theorem ok_EscapeWriter_end (T : Tx K mg) : DefOk P w K mg base 1 (He.ma K (He.ga K "EscapeWriter") "end") ["self"] (spWEnd K isEsc) := by
  refine def_ok (N := n_EscapeWriter_end) (fn_EscapeWriter_end T) sc_EscapeWriter_end (fun _ _ _ _ _ _ us hl => match us, hl with | [_], _ => rfl) (fun vs H Q E h => ?_) (fun cdv A outer s H vs Q E hr h => ?_)
  · obtain ⟨p, l, st, rfl, _⟩ := h
    rfl
  · obtain ⟨p, l, st, rfl, hst, hw, hk, q⟩ := h
    cases st <;> simp only [isEsc] at hst
    obtain ⟨dx, hp, hl⟩ := hw
    refine ⟨_, [_], (pss_one (ps_ret (pe_lst pa_nil))), rfl, ?_⟩
    try dsimp only [cxOf]
    wtm_at "x"
    intro r hr
    exact q _ l r ⟨dx, by wtm_at "h", by wtm_at "h"⟩ (Or.inl rfl) hr upd_same (by wtm_at "only")
/-! ### RunsWriter -/
theorem ok_RunsWriter_init (T : Tx K mg) : DefOk P w K mg base 1 (He.ma K (He.ga K "RunsWriter") "__init__") ["self"] (spWInit K (He.ga K "RunsWriter") fun a H st => a = [] ∧ st = .runs 0 0) := by
  refine def_ok (N := n_RunsWriter_init) (fn_RunsWriter_init T) sc_RunsWriter_init (fun _ _ _ _ _ _ us hl => match us, hl with | [_], _ => rfl) (fun vs H Q E h => ?_) (fun cdv A outer s H vs Q E hr h => ?_)
  · obtain ⟨p, dx, a, st, rfl, _, _, ⟨rfl, _⟩, _⟩ := h
    rfl
  · obtain ⟨p, dx, a, st, rfl, hp, hd, ⟨rfl, rfl⟩, q⟩ := h
    have hpd : dx ≠ p := ne_of hd hp (by intro z; cases z)
    refine ⟨_, [_], (pss_cons (ps_fld (pv 0) pe_int rfl)
      (pss_one (ps_fld (pv 0) pe_int rfl))), rfl, ?_⟩
    try dsimp only [cxOf]
    wtm_at "x"
    exact q _ dx ⟨by wtm_at "h", by wtm_at "h"⟩ (Or.inl rfl) (by wtm_at "only")
theorem ok_RunsWriter_end (T : Tx K mg) : DefOk P w K mg base 1 (He.ma K (He.ga K "RunsWriter") "end") ["self"] (spWEndG K isRuns) := by
  refine def_ok (N := n_RunsWriter_end) (fn_RunsWriter_end T) sc_RunsWriter_end (fun _ _ _ _ _ _ us hl => match us, hl with | [_], _ => rfl) (fun vs H Q E h => ?_) (fun cdv A outer s H vs Q E hr h => ?_)
  · obtain ⟨p, l, st, rfl, _⟩ := h
    rfl
  · obtain ⟨p, l, st, rfl, hst, hw, q⟩ := h
    cases st <;> simp only [isRuns] at hst
    rename_i many byte
    obtain ⟨hp, hl⟩ := hw
    have hpl : l ≠ p := ne_of hl hp (by intro z; cases z)
    refine ⟨_, [_, _], (pss_cons (ps_set (i := 1) sc_RunsWriter_end.nd rfl (Or.inl rfl) (pe_fld (pv 0) rfl))
      (pss_cons (ps_fld (pv 0) pe_int rfl)
      (pss_cons (ps_if (pt_cmpR op_eq (pv 1) pe_int (nomark _)) (pss_one (ps_ret (pe_lst pa_nil))) pss_nil)
      (pss_one (ps_ret (pe_lst (pa_cons (pv 1) (pa_cons (pe_fld (pv 0) rfl) pa_nil)))))))), rfl, ?_⟩
    try dsimp only [cxOf]
    wtm_at "x"
    refine ite_d (fun hc => ?_) fun hc => ?_
    · wtm_at "x"
      intro r hr
      obtain ⟨r1, hr0⟩ := upd_none hr
      refine q _ l r ⟨by wtm_at "h", by wtm_at "h"⟩ (Or.inl rfl) hr0 ?_ (by wtm_at "only")
      rw [upd_same]
      show _ = some (HO.lst (iV (if many = 0 then [] else [many, byte])))
      rw [if_pos hc]
      rfl
    · wtm_at "x"
      intro r hr
      obtain ⟨r1, hr0⟩ := upd_none hr
      refine q _ l r ⟨by wtm_at "h", by wtm_at "h"⟩ (Or.inl rfl) hr0 ?_ (by wtm_at "only")
      rw [upd_same]
      show _ = some (HO.lst (iV (if many = 0 then [] else [many, byte])))
      rw [if_neg hc]
      rfl
theorem runs_a {many byte b : Int} (h : many > 0 ∧ b ≠ byte) : takeRuns many byte b = ([many, byte], .runs 1 b) := if_pos h
theorem runs_b {many byte b : Int} (h : ¬ (many > 0 ∧ b ≠ byte)) (h2 : many + 1 = 255) : takeRuns many byte b = ([255, b], .runs 0 b) := by
  unfold takeRuns
  rw [if_neg h, if_pos h2]
theorem runs_c {many byte b : Int} (h : ¬ (many > 0 ∧ b ≠ byte)) (h2 : ¬ many + 1 = 255) : takeRuns many byte b = ([], .runs (many + 1) b) := by
  unfold takeRuns
  rw [if_neg h, if_neg h2]
theorem ok_RunsWriter_take (T : Tx K mg) : DefOk P w K mg base 2 (He.ma K (He.ga K "RunsWriter") "take") ["self", "byte"] (spWTake K isRuns) := by
  have M_RunsWriter_end := meth1 (cl_RunsWriter T) (me_RunsWriter_end T) (ok_RunsWriter_end (P := P) (w := w) (base := base) T)
  refine def_ok (N := n_RunsWriter_take) (fn_RunsWriter_take T) sc_RunsWriter_take (fun _ _ _ _ _ _ us hl => match us, hl with | [_, _], _ => rfl) (fun vs H Q E h => ?_) (fun cdv A outer s H vs Q E hr h => ?_)
  · obtain ⟨p, l, st, b, rfl, _⟩ := h
    rfl
  · obtain ⟨p, l, st, b, rfl, hst, hw, hk, hb, q⟩ := h
    cases st <;> simp only [isRuns] at hst
    rename_i many byte
    obtain ⟨hp, hl⟩ := hw
    obtain ⟨m0, m1, hby⟩ := hk
    have hpl : l ≠ p := ne_of hl hp (by intro z; cases z)
    -- the rest behind the first test, nothing being told so far
    refine ⟨_, [_, _, _], (pss_cons (ps_set (i := 2) sc_RunsWriter_take.nd rfl (Or.inl rfl) (pe_lst pa_nil))
      (pss_cons (ps_if (PW.pt (pw_and (pt_cmpR op_gt (pe_fld (pv 0) rfl) pe_int (nomark _)) (pw_and1 (pt_cmpR op_ne (pv 1) (pe_fld (pv 0) rfl) (nomark _))))) (pss_one (ps_set (i := 2) sc_RunsWriter_take.nd rfl (Or.inl rfl) (pe_mm0 M_RunsWriter_end (hr.mono (by first | decide | omega)) (fun _ => passE) (pv 0)))) pss_nil)
      (pss_cons (ps_fld (pv 0) (pv 1) rfl)
      (pss_cons (ps_fld (pv 0) (pe_op op_add (pe_fld (pv 0) rfl) pe_int) rfl)
      (pss_cons (ps_if (pt_cmpR op_eq (pe_fld (pv 0) rfl) (pe_ci (c_LONGEST T)) (nomark _)) (pss_one (ps_set (i := 2) sc_RunsWriter_take.nd rfl (Or.inl rfl) (pe_op op_cat (pv 2) (pe_mm0 M_RunsWriter_end (hr.mono (by first | decide | omega)) (fun _ => passE) (pv 0))))) pss_nil)
      (pss_one (ps_ret (pv 2)))))))), rfl, ?_⟩
    try dsimp only [cxOf]
    wtm_at "x"
    intro f1 hf1
    have nf : f1 ≠ p := (ne_of_none hp hf1).symm
    have nl : f1 ≠ l := (ne_of_none hl hf1).symm
    wtm_at "x"
    refine x_andJ (a := decide (0 < many)) (b := !decide (b = byte)) (fun B' k => ?_) (fun _ B' k => ?_) (fun h1 h2 => ?_) (fun h12 => ?_)
    · wtm_at "x"
      exact k
    · wtm_at "x"
      exact k
    · have hcc : many > 0 ∧ b ≠ byte := ⟨of_decide_eq_true h1, by simpa using h2⟩
      refine iteT ?_
      wtm_at "x"
      refine ⟨p, l, .runs many byte, rfl, trivial, ⟨by wtm_at "h", by wtm_at "h"⟩, fun H' l' r hw' hl' hr hr' ho => ?_⟩
      obtain ⟨hp', hl2⟩ := hw'
      obtain ⟨_, hr0⟩ := upd_none hr
      have hpr : p ≠ r := ne_of_none hp hr0
      wtm_at "x"
      refine ite_d (fun hc3 => absurd hc3 (by decide)) fun hc3 => ?_
      wtm_at "x"
      have hl0 : l' = l ∨ H l' = none := by
        rcases hl' with z | z
        · exact Or.inl z
        · exact Or.inr (upd_none z).2
      have hpl' : l' ≠ p := ne_of hl2 hp' (by intro z; cases z)
      refine q _ l' r ?_ hl0 hr0 ?_ ?_
      · show WAt K _ p l' (takeRuns many byte b).2
        rw [runs_a hcc]
        exact ⟨upd_same, by wtm_at "h"⟩
      · show _ = some (HO.lst (iV (takeRuns many byte b).1))
        rw [runs_a hcc]
        have e : wend (.runs many byte) = [many, byte] := if_neg (by omega)
        rw [e] at hr'
        wtm_at "h"
      · have o1 : Only' [p, l] H H' := (Only'.put0 Only'.refl hf1).trans ho
        exact (o1.put (by simp)).put (by simp)
    · have hcc : ¬ (many > 0 ∧ b ≠ byte) := by
        rintro ⟨h1, h2⟩
        simp [h1, h2] at h12
      refine iteF ?_
      wtm_at "x"
      refine ite_d (fun hc3 => ?_) fun hc3 => ?_
      · wtm_at "x"
        refine ⟨p, l, .runs (many + 1) b, rfl, trivial, ⟨by wtm_at "h", by wtm_at "h"⟩, fun H' l' r hw' hl' hr hr' ho => ?_⟩
        obtain ⟨hp', hl2⟩ := hw'
        obtain ⟨_, hr⟩ := upd_none hr
        obtain ⟨_, hr⟩ := upd_none hr
        obtain ⟨rf, hr0⟩ := upd_none hr
        have ef : H' f1 = some (.lst []) := ho f1 _ (by wtm_at "h") (by simp [nf, nl])
        refine x_cat ef hr' (by simp [wend]; rw [if_neg (by omega)]; simp [sizeLine_eq, iV]) fun r2 hr2 => ?_
        wtm_at "x"
        have hl0 : l' = l ∨ H l' = none := by
          rcases hl' with z | z
          · exact Or.inl z
          · exact Or.inr (upd_none (upd_none (upd_none z).2).2).2
        have o1 : Only' [p, l] H H' := (((Only'.put0 Only'.refl hf1).put (by simp)).put (by simp)).trans ho
        have hr20 : H r2 = none := o1.free hr2
        have e1 : wend (.runs (many + 1) b) = [many + 1, b] := if_neg (by omega)
        refine q _ l' r2 ?_ hl0 hr20 ?_ (o1.put0 hr20)
        · show WAt K _ p l' (takeRuns many byte b).2
          rw [runs_b hcc hc3]
          exact ⟨by wtm_at "h", by wtm_at "h"⟩
        · rw [upd_same, e1]
          show _ = some (HO.lst (iV (takeRuns many byte b).1))
          rw [runs_b hcc hc3, hc3]
          rfl
      · wtm_at "x"
        refine q _ l f1 ?_ (Or.inl rfl) hf1 ?_ (by wtm_at "only")
        · show WAt K _ p l (takeRuns many byte b).2
          rw [runs_c hcc hc3]
          exact ⟨by wtm_at "h", by wtm_at "h"⟩
        · show _ = some (HO.lst (iV (takeRuns many byte b).1))
          rw [runs_c hcc hc3]
          dsimp only [iV, List.map]
          wtm_at "h"
end
end Flow

namespace Flow
open PySem PySem.Spec PyProof.Rows L2
/-- the end of chunks, be the held row full -/
def spWEndC (K : PySem.W.Frag) : Sp := fun vs H Q _ => ∃ (p l : Addr) (n : Int) (held : Row), vs = [.ref p] ∧ WAt K H p l (.chunks n held) ∧ held.length ≤ 255 ∧
  ∀ (H' : Hp) (l' r : Addr), WAt K H' p l' (.chunks n []) → (l' = l ∨ H l' = none) → H r = none → H' r = some (.lst (iV ((held.length : Int) :: held))) → Only' [p, l] H H' → Q (.ref r) H'
section
variable {P : Program} {w : World} {K : PySem.W.Frag} {mg : Str → Option Value} {base : Heap}
/-! ### ChunksWriter -/
theorem ok_ChunksWriter_init (T : Tx K mg) : DefOk P w K mg base 1 (He.ma K (He.ga K "ChunksWriter") "__init__") ["self", "size"] (spWInit K (He.ga K "ChunksWriter") fun a H st => ∃ n, a = [.int n] ∧ st = .chunks n []) := by
  refine def_ok (N := n_ChunksWriter_init) (fn_ChunksWriter_init T) sc_ChunksWriter_init (fun _ _ _ _ _ _ us hl => match us, hl with | [_, _], _ => rfl) (fun vs H Q E h => ?_) (fun cdv A outer s H vs Q E hr h => ?_)
  · obtain ⟨p, dx, a, st, rfl, _, _, ⟨n, rfl, _⟩, _⟩ := h
    rfl
  · obtain ⟨p, dx, a, st, rfl, hp, hd, ⟨n, rfl, rfl⟩, q⟩ := h
    refine ⟨_, [_, _], (pss_cons (ps_fld (pv 0) (pv 1) rfl)
      (pss_one (ps_fld (pv 0) (pe_lst pa_nil) rfl))), rfl, ?_⟩
    try dsimp only [cxOf]
    wtm_at "x"
    intro l hl
    obtain ⟨lp, hl0⟩ := upd_none hl
    wtm_at "x"
    exact q _ l ⟨dx, by wtm_at "h", (show _ = some (HO.lst []) by wtm_at "h")⟩ (Or.inr hl0) (by wtm_at "only")
theorem ok_ChunksWriter_end (T : Tx K mg) : DefOk P w K mg base 1 (He.ma K (He.ga K "ChunksWriter") "end") ["self"] (spWEndC K) := by
  refine def_ok (N := n_ChunksWriter_end) (fn_ChunksWriter_end T) sc_ChunksWriter_end (fun _ _ _ _ _ _ us hl => match us, hl with | [_], _ => rfl) (fun vs H Q E h => ?_) (fun cdv A outer s H vs Q E hr h => ?_)
  · obtain ⟨p, l, n, held, rfl, _⟩ := h
    rfl
  · obtain ⟨p, l, n, held, rfl, hw, hk, q⟩ := h
    obtain ⟨dx, hp, hl⟩ := hw
    have hpl : p ≠ l := ne_of hp hl (by intro z; cases z)
    refine ⟨_, [_, _], (pss_cons (ps_set (i := 1) sc_ChunksWriter_end.nd rfl (Or.inl rfl) (pe_op op_cat (pe_lst (pa_cons (pe_callB call_lenS rfl (f_len T) (by decide +kernel) (pa_cons (pe_fld (pv 0) rfl) pa_nil)) pa_nil)) (pe_fld (pv 0) rfl)))
      (pss_cons (ps_fld (pv 0) (pe_lst pa_nil) rfl)
      (pss_one (ps_ret (pv 1))))), rfl, ?_⟩
    try dsimp only [cxOf]
    wtm_at "x"
    intro t1 ht1
    have n1 : t1 ≠ p := (ne_of_none hp ht1).symm
    have n2 : t1 ≠ l := (ne_of_none hl ht1).symm
    wtm_at "x"
    refine x_cat upd_same (by wtm_at "h") (by rw [iV_length, sizeLine_eq]; simp; omega) fun r hr => ?_
    obtain ⟨n3, hr0⟩ := upd_none hr
    have n4 : r ≠ p := (ne_of_none hp hr0).symm
    wtm_at "x"
    intro l2 hl2
    obtain ⟨n5, hl2⟩ := upd_none hl2
    obtain ⟨n6, hl2⟩ := upd_none hl2
    have n7 : l2 ≠ p := (ne_of_none hp hl2).symm
    wtm_at "x"
    refine q _ l2 r ⟨dx, by wtm_at "h", (show _ = some (HO.lst []) by wtm_at "h")⟩ (Or.inr hl2) hr0 ?_ (by wtm_at "only")
    show _ = some (HO.lst (iV ((held.length : Int) :: held)))
    have e : iV ((held.length : Int) :: held) = [V.int ((iV held).length : Int)] ++ iV held := by rw [iV_length]; rfl
    rw [e]
    wtm_at "h"
theorem ok_ChunksWriter_take (T : Tx K mg) : DefOk P w K mg base 2 (He.ma K (He.ga K "ChunksWriter") "take") ["self", "byte"] (spWTake K isChunks) := by
  have M_ChunksWriter_end := meth1 (cl_ChunksWriter T) (me_ChunksWriter_end T) (ok_ChunksWriter_end (P := P) (w := w) (base := base) T)
  refine def_ok (N := n_ChunksWriter_take) (fn_ChunksWriter_take T) sc_ChunksWriter_take (fun _ _ _ _ _ _ us hl => match us, hl with | [_, _], _ => rfl) (fun vs H Q E h => ?_) (fun cdv A outer s H vs Q E hr h => ?_)
  · obtain ⟨p, l, st, b, rfl, _⟩ := h
    rfl
  · obtain ⟨p, l, st, b, rfl, hst, hw, hk, hb, q⟩ := h
    cases st <;> simp only [isChunks] at hst
    rename_i n held
    obtain ⟨dx, hp, hl⟩ := hw
    obtain ⟨k1, k2, k3, k4⟩ := hk
    have hpl : p ≠ l := ne_of hp hl (by intro z; cases z)
    have hln : (iV held).length < sizeLine := by rw [iV_length, sizeLine_eq]; omega
    refine ⟨_, [_, _], (pss_cons (ps_expr (pe_bm PySem.F.plainAttrs_list PySem.F.slot_list_append PySem.F.type_list_append mt_append (pe_fld (pv 0) rfl) (pa_cons (pv 1) pa_nil)))
      (pss_cons (ps_if (pt_cmpR op_eq (pe_callB call_lenS rfl (f_len T) (by decide +kernel) (pa_cons (pe_fld (pv 0) rfl) pa_nil)) (pe_fld (pv 0) rfl) (nomark _)) (pss_one (ps_ret (pe_mm0 M_ChunksWriter_end (hr.mono (by first | decide | omega)) (fun _ => passE) (pv 0)))) pss_nil)
      (pss_one (ps_ret (pe_lst pa_nil))))), rfl, ?_⟩
    try dsimp only [cxOf]
    wtm_at "x"
    have ea : iV held ++ [V.int b] = iV (held ++ [b]) := by rw [iV_append]; rfl
    rw [ea]
    rw [iV_length]
    refine ite_d (fun hc => ?_) fun hc => ?_
    · wtm_at "x"
      refine ⟨p, l, n, held ++ [b], rfl, ⟨dx, by wtm_at "h", by wtm_at "h"⟩, by simp; omega, fun H' l' r hw' hl' hr hr' ho => ?_⟩
      have hl0 : l' = l ∨ H l' = none := by
        rcases hl' with z | z
        · exact Or.inl z
        · exact Or.inr (upd_none z).2
      have e : wtake (.chunks n held) b = (((held ++ [b]).length : Int) :: (held ++ [b]), .chunks n []) := if_pos hc
      refine q H' l' r ?_ hl0 (upd_none hr).2 ?_ ((Only'.refl.put (by simp)).trans ho)
      · rw [e]
        exact hw'
      · rw [e]
        exact hr'
    · wtm_at "x"
      intro r hr
      obtain ⟨_, hr0⟩ := upd_none hr
      have n1 : r ≠ l := (ne_of_none hl hr0).symm
      have e : wtake (.chunks n held) b = ([], .chunks n (held ++ [b])) := if_neg hc
      refine q _ l r ?_ (Or.inl rfl) hr0 ?_ (by wtm_at "only")
      · rw [e]
        exact ⟨dx, by wtm_at "h", by wtm_at "h"⟩
      · rw [e]
        exact upd_same
/-! ### ChecksWriter -/
def spChecked (K : PySem.W.Frag) : Sp := fun vs H Q _ => ∃ (a : Addr) (c : Int) (r : Row), vs = [.int c, .ref a] ∧ SqL K H a (iV r) ∧ 0 ≤ c ∧ c < 65521 ∧ Q (.int (checkAll c r)) H
theorem checkAll_more : ∀ (c : Int) (r : Row) (b : Int), checkAll c (r ++ [b]) = nextCheck (checkAll c r) b
  | _, [], _ => rfl
  | c, x :: r, b => checkAll_more (nextCheck c x) r b
theorem checkAll_in : ∀ (c : Int) (r : Row), 0 ≤ c → c < 65521 → 0 ≤ checkAll c r ∧ checkAll c r < 65521
  | _, [], h0, h1 => ⟨h0, h1⟩
  | c, x :: r, _, _ => checkAll_in (nextCheck c x) r (Int.emod_nonneg _ (by decide)) (Int.emod_lt_of_pos _ (by decide))
theorem ok_checked (T : Tx K mg) : DefOk P w K mg base 1 (He.ga K "checked") ["check", "row"] (spChecked K) := by
  refine def_ok (N := n_checked) (fn_checked T) sc_checked (fun _ _ _ _ _ _ us hl => match us, hl with | [_, _], _ => rfl) (fun vs H Q E h => ?_) (fun cdv A outer s H vs Q E hr h => ?_)
  · obtain ⟨a, c, r, rfl, _⟩ := h
    rfl
  · obtain ⟨a, c, r, rfl, hr, c0, c1, q⟩ := h
    refine ⟨_, [_, _, _], (pss_cons (ps_for (passes_of rfl) rfl (pi_list (pv 1)) (pg_name (i := 2) sc_checked.nd rfl (Or.inl rfl)) (pss_one (ps_set (i := 0) sc_checked.nd rfl (Or.inl rfl) (pe_op op_mod (pe_op op_add (pe_op op_add (pe_op op_mul (pv 0) (pe_ci (c_FACTOR T))) (pv 2)) pe_int) (pe_ci (c_PRIME T))))))
      (pss_one (ps_ret (pv 0)))), rfl, ?_⟩
    try dsimp only [cxOf]
    wtm_at "x"
    refine x_rForL hr (fun i σ H' => ∃ v, σ = [some (.int (checkAll c (r.take i))), some (.ref a), v] ∧ H' = H) ⟨_, rfl, rfl⟩ (fun i σ H' _ ⟨_, _, e⟩ => e ▸ hr) ?_ ?_
    · rintro i x σ H' hi ⟨v, rfl, rfl⟩
      obtain ⟨z, hz, rfl⟩ := iV_get hi
      obtain ⟨hc0, hc1⟩ := checkAll_in c (r.take i) c0 c1
      wtm_at "x"
      refine ⟨some (.int z), ?_, rfl⟩
      rw [take_more hz, checkAll_more]
      rfl
    · rintro σ H' ⟨v, rfl, rfl⟩
      wtm_at "x"
      rw [iV_length, List.take_length]
      exact q
def spCheckBytes : Sp := fun vs H Q _ => ∃ c : Int, vs = [.int c] ∧ ∀ r, H r = none → Q (.ref r) (upd H r (.lst (iV (checkBytes c))))
theorem ok_check_bytes (T : Tx K mg) : DefOk P w K mg base 1 (He.ga K "check_bytes") ["check"] spCheckBytes := by
  refine def_ok (N := n_check_bytes) (fn_check_bytes T) sc_check_bytes (fun _ _ _ _ _ _ us hl => match us, hl with | [_], _ => rfl) (fun vs H Q E h => ?_) (fun cdv A outer s H vs Q E hr h => ?_)
  · obtain ⟨c, rfl, _⟩ := h
    rfl
  · obtain ⟨c, rfl, q⟩ := h
    refine ⟨_, [_], (pss_one (ps_ret (pe_lst (pa_cons (pe_op op_fdiv (pv 0) pe_int) (pa_cons (pe_op op_mod (pv 0) pe_int) pa_nil))))), rfl, ?_⟩
    try dsimp only [cxOf]
    wtm_at "x"
    intro r hr
    exact q r hr
theorem ok_ChecksWriter_init (T : Tx K mg) : DefOk P w K mg base 1 (He.ma K (He.ga K "ChecksWriter") "__init__") ["self", "size"] (spWInit K (He.ga K "ChecksWriter") fun a H st => ∃ n, a = [.int n] ∧ st = .checks n 0 0) := by
  refine def_ok (N := n_ChecksWriter_init) (fn_ChecksWriter_init T) sc_ChecksWriter_init (fun _ _ _ _ _ _ us hl => match us, hl with | [_, _], _ => rfl) (fun vs H Q E h => ?_) (fun cdv A outer s H vs Q E hr h => ?_)
  · obtain ⟨p, dx, a, st, rfl, _, _, ⟨n, rfl, _⟩, _⟩ := h
    rfl
  · obtain ⟨p, dx, a, st, rfl, hp, hd, ⟨n, rfl, rfl⟩, q⟩ := h
    have hpd : dx ≠ p := ne_of hd hp (by intro z; cases z)
    refine ⟨_, [_, _], (pss_cons (ps_fld (pv 0) (pv 1) rfl)
      (pss_cons (ps_fld (pv 0) pe_int rfl)
      (pss_one (ps_fld (pv 0) pe_int rfl)))), rfl, ?_⟩
    try dsimp only [cxOf]
    wtm_at "x"
    exact q _ dx ⟨by wtm_at "h", by wtm_at "h"⟩ (Or.inl rfl) (by wtm_at "only")
theorem ok_ChecksWriter_end (T : Tx K mg) : DefOk P w K mg base 2 (He.ma K (He.ga K "ChecksWriter") "end") ["self"] (spWEndG K isChecks) := by
  have D_check_bytes := ok_check_bytes (P := P) (w := w) (base := base) T
  refine def_ok (N := n_ChecksWriter_end) (fn_ChecksWriter_end T) sc_ChecksWriter_end (fun _ _ _ _ _ _ us hl => match us, hl with | [_], _ => rfl) (fun vs H Q E h => ?_) (fun cdv A outer s H vs Q E hr h => ?_)
  · obtain ⟨p, l, st, rfl, _⟩ := h
    rfl
  · obtain ⟨p, l, st, rfl, hst, hw, q⟩ := h
    cases st <;> simp only [isChecks] at hst
    rename_i n many check
    obtain ⟨hp, hl⟩ := hw
    have hpl : l ≠ p := ne_of hl hp (by intro z; cases z)
    refine ⟨_, [_], (pss_cons (ps_fld (pv 0) pe_int rfl)
      (pss_one (ps_ret (pe_fn D_check_bytes (g_check_bytes T) (hr.mono (by first | decide | omega)) (fun _ => passE) (pa_cons (pe_fld (pv 0) rfl) pa_nil))))), rfl, ?_⟩
    try dsimp only [cxOf]
    wtm_at "x"
    refine ⟨check, rfl, fun r hr => ?_⟩
    obtain ⟨_, hr0⟩ := upd_none hr
    exact q _ l r ⟨by wtm_at "h", by wtm_at "h"⟩ (Or.inl rfl) hr0 upd_same (by wtm_at "only")
theorem ok_ChecksWriter_take (T : Tx K mg) : DefOk P w K mg base 3 (He.ma K (He.ga K "ChecksWriter") "take") ["self", "byte"] (spWTake K isChecks) := by
  have D_checked := ok_checked (P := P) (w := w) (base := base) T
  have M_ChecksWriter_end := meth1 (cl_ChecksWriter T) (me_ChecksWriter_end T) (ok_ChecksWriter_end (P := P) (w := w) (base := base) T)
  refine def_ok (N := n_ChecksWriter_take) (fn_ChecksWriter_take T) sc_ChecksWriter_take (fun _ _ _ _ _ _ us hl => match us, hl with | [_, _], _ => rfl) (fun vs H Q E h => ?_) (fun cdv A outer s H vs Q E hr h => ?_)
  · obtain ⟨p, l, st, b, rfl, _⟩ := h
    rfl
  · obtain ⟨p, l, st, b, rfl, hst, hw, hk, hb, q⟩ := h
    cases st <;> simp only [isChecks] at hst
    rename_i n many check
    obtain ⟨hp, hl⟩ := hw
    obtain ⟨k1, k2, k3, k4, k5, k6⟩ := hk
    have hpl : l ≠ p := ne_of hl hp (by intro z; cases z)
    refine ⟨_, [_, _], (pss_cons (ps_fld (pv 0) (pe_fn D_checked (g_checked T) (hr.mono (by first | decide | omega)) (fun _ => passE) (pa_cons (pe_fld (pv 0) rfl) (pa_cons (pe_lst (pa_cons (pv 1) pa_nil)) pa_nil))) rfl)
      (pss_cons (ps_fld (pv 0) (pe_op op_add (pe_fld (pv 0) rfl) pe_int) rfl)
      (pss_cons (ps_if (pt_cmpR op_lt (pe_fld (pv 0) rfl) (pe_fld (pv 0) rfl) (nomark _)) (pss_one (ps_ret (pe_lst (pa_cons (pv 1) pa_nil)))) pss_nil)
      (pss_one (ps_ret (pe_op op_cat (pe_lst (pa_cons (pv 1) pa_nil)) (pe_mm0 M_ChecksWriter_end (hr.mono (by first | decide | omega)) (fun _ => passE) (pv 0)))))))), rfl, ?_⟩
    try dsimp only [cxOf]
    wtm_at "x"
    intro t1 ht1
    have n1 : t1 ≠ p := (ne_of_none hp ht1).symm
    have n2 : t1 ≠ l := (ne_of_none hl ht1).symm
    wtm_at "x"
    refine ⟨t1, check, [b], rfl, SqL.of upd_same, k5, k6, ?_⟩
    have ec : checkAll check [b] = nextCheck check b := rfl
    rw [ec]
    wtm_at "x"
    refine ite_d (fun hc => ?_) fun hc => ?_
    · wtm_at "x"
      intro r hr
      obtain ⟨_, hr⟩ := upd_none hr
      obtain ⟨_, hr⟩ := upd_none hr
      obtain ⟨n3, hr0⟩ := upd_none hr
      have e : wtake (.checks n many check) b = ([b], .checks n (many + 1) (nextCheck check b)) := if_pos hc
      refine q _ l r ?_ (Or.inl rfl) hr0 ?_ (by wtm_at "only")
      · rw [e]
        exact ⟨by wtm_at "h", by wtm_at "h"⟩
      · rw [e]
        exact upd_same
    · wtm_at "x"
      intro t2 ht2
      obtain ⟨_, ht2⟩ := upd_none ht2
      obtain ⟨_, ht2⟩ := upd_none ht2
      obtain ⟨n3, ht20⟩ := upd_none ht2
      have n4 : t2 ≠ p := (ne_of_none hp ht20).symm
      have n5 : t2 ≠ l := (ne_of_none hl ht20).symm
      wtm_at "x"
      refine ⟨p, l, .checks n (many + 1) (nextCheck check b), rfl, trivial, ⟨by wtm_at "h", by wtm_at "h"⟩, fun H' l' r hw' hl' hr hr' ho => ?_⟩
      have o1 : Only' [p, l] H H' := Only'.trans (by wtm_at "only") ho
      have h2 : H' t2 = some (.lst [V.int b]) := ho t2 _ upd_same (by simp [n4, n5])
      have hl0 : l' = l ∨ H l' = none := by
        rcases hl' with z | z
        · exact Or.inl z
        · exact Or.inr (upd_none (upd_none (upd_none (upd_none z).2).2).2).2
      refine x_cat h2 hr' (by rw [iV_length, sizeLine_eq]; show 1 + 2 ≤ 16777216; decide) fun r2 hr2 => ?_
      wtm_at "x"
      have hr20 : H r2 = none := o1.free hr2
      have e : wtake (.checks n many check) b = (b :: checkBytes (nextCheck check b), .checks n 0 (nextCheck check b)) := if_neg hc
      obtain ⟨hp', hl2⟩ := hw'
      refine q _ l' r2 ?_ hl0 hr20 ?_ (o1.put0 hr20)
      · rw [e]
        exact ⟨upd_get (ne_of_none hp' hr2) hp', upd_get (ne_of_none hl2 hr2) hl2⟩
      · rw [e]
        exact upd_same
end
end Flow

namespace Flow
open PySem PySem.Spec PyProof.Rows L2
section
variable {P : Program} {w : World} {K : PySem.W.Frag} {mg : Str → Option Value} {base : Heap}
/-! ### SignsWriter -/
theorem ok_SignsWriter_init (T : Tx K mg) : DefOk P w K mg base 1 (He.ma K (He.ga K "SignsWriter") "__init__") ["self"] (spWInit K (He.ga K "SignsWriter") fun a H st => a = [] ∧ st = .signs 0 0) := by
  refine def_ok (N := n_SignsWriter_init) (fn_SignsWriter_init T) sc_SignsWriter_init (fun _ _ _ _ _ _ us hl => match us, hl with | [_], _ => rfl) (fun vs H Q E h => ?_) (fun cdv A outer s H vs Q E hr h => ?_)
  · obtain ⟨p, dx, a, st, rfl, _, _, ⟨rfl, _⟩, _⟩ := h
    rfl
  · obtain ⟨p, dx, a, st, rfl, hp, hd, ⟨rfl, rfl⟩, q⟩ := h
    have hpd : dx ≠ p := ne_of hd hp (by intro z; cases z)
    refine ⟨_, [_], (pss_cons (ps_fld (pv 0) pe_int rfl)
      (pss_one (ps_fld (pv 0) pe_int rfl))), rfl, ?_⟩
    try dsimp only [cxOf]
    wtm_at "x"
    exact q _ dx ⟨by wtm_at "h", by wtm_at "h"⟩ (Or.inl rfl) (by wtm_at "only")
theorem pow2_0 : pow2 0 = 1 := rfl
theorem pow2_2 : pow2 2 = 4 := rfl
theorem pow2_4 : pow2 4 = 16 := rfl
theorem pow2_6 : pow2 6 = 64 := rfl
theorem sg_a {many value b : Int} (hm : many = 0 ∨ many = 2 ∨ many = 4) (h0 : 0 ≤ value) (h1 : value < pow2 many) (hb : By b) :
    0 ≤ (value * 256 + b) / pow2 (many + 2) ∧ (value * 256 + b) / pow2 (many + 2) < 64 ∧ 0 ≤ (value * 256 + b) % pow2 (many + 2) ∧ (value * 256 + b) % pow2 (many + 2) < pow2 (many + 2) ∧ 0 < pow2 (many + 2) ∧ pow2 (many + 2) ≤ 64 := by
  obtain ⟨b0, b1⟩ := hb
  rcases hm with rfl | rfl | rfl
  · rw [pow2_0] at h1
    rw [show pow2 (0 + 2) = 4 from rfl]
    omega
  · rw [pow2_2] at h1
    rw [show pow2 (2 + 2) = 16 from rfl]
    omega
  · rw [pow2_4] at h1
    rw [show pow2 (4 + 2) = 64 from rfl]
    omega
theorem ok_SignsWriter_take (T : Tx K mg) : DefOk P w K mg base 2 (He.ma K (He.ga K "SignsWriter") "take") ["self", "byte"] (spWTake K isSigns) := by
  refine def_ok (N := n_SignsWriter_take) (fn_SignsWriter_take T) sc_SignsWriter_take (fun _ _ _ _ _ _ us hl => match us, hl with | [_, _], _ => rfl) (fun vs H Q E h => ?_) (fun cdv A outer s H vs Q E hr h => ?_)
  · obtain ⟨p, l, st, b, rfl, _⟩ := h
    rfl
  · obtain ⟨p, l, st, b, rfl, hst, hw, hk, hb, q⟩ := h
    cases st <;> simp only [isSigns] at hst
    rename_i many value
    obtain ⟨hp, hl⟩ := hw
    obtain ⟨k1, k2, k3⟩ := hk
    have hv : value < 64 := by
      rcases k1 with rfl | rfl | rfl
      · rw [pow2_0] at k3; omega
      · rw [pow2_2] at k3; omega
      · rw [pow2_4] at k3; omega
    obtain ⟨g1, g2, g3, g4, g5, g6⟩ := sg_a k1 k2 k3 hb
    have hpl : l ≠ p := ne_of hl hp (by intro z; cases z)
    have hpow := t_POWERS T
    have hsig := t_SIGNS T
    refine ⟨_, [_, _, _], (pss_cons (ps_fld (pv 0) (pe_op op_add (pe_op op_mul (pe_fld (pv 0) rfl) pe_int) (pv 1)) rfl)
      (pss_cons (ps_fld (pv 0) (pe_op op_add (pe_fld (pv 0) rfl) pe_int) rfl)
      (pss_cons (ps_set (i := 2) sc_SignsWriter_take.nd rfl (Or.inl rfl) (pe_lst pa_nil))
      (pss_cons (ps_while (passes_of rfl) (pt_cmpR op_ge (pe_fld (pv 0) rfl) pe_int (nomark _)) (pss_cons (ps_fld (pv 0) (pe_op op_sub (pe_fld (pv 0) rfl) pe_int) rfl)
      (pss_cons (ps_expr (pe_bm PySem.F.plainAttrs_list PySem.F.slot_list_append PySem.F.type_list_append mt_append (pv 2) (pa_cons (pe_ix ix_tup (pe_gr (g_SIGNS T)) (pe_op op_fdivN (pe_fld (pv 0) rfl) (pe_ix ix_tup (pe_gr (g_POWERS T)) (pe_fld (pv 0) rfl) (fun _ _ => rfl))) (fun _ _ => rfl)) pa_nil)))
      (pss_one (ps_fld (pv 0) (pe_op op_modN (pe_fld (pv 0) rfl) (pe_ix ix_tup (pe_gr (g_POWERS T)) (pe_fld (pv 0) rfl) (fun _ _ => rfl))) rfl)))))
      (pss_one (ps_ret (pv 2))))))), rfl, ?_⟩
    try dsimp only [cxOf]
    wtm_at "x"
    intro f hf
    obtain ⟨_, hf⟩ := upd_none hf
    obtain ⟨nf, hf0⟩ := upd_none hf
    have nl : f ≠ l := (ne_of_none hl hf0).symm
    wtm_at "x"
    have e1 : many + 8 - 6 = many + 2 := by omega
    refine x_while (fun m σ H' => σ = [some (.ref p), some (.int b), some (.ref f)] ∧ H' l = some (.own p) ∧ Only' [p] H H' ∧ ∃ (mny v : Int) (out : Row), H' p = some (.ins (He.ga K "SignsWriter") l [("many", .int mny), ("value", .int v)]) ∧ H' f = some (.lst (iV out)) ∧
      ((m = 2 ∧ mny = many + 8 ∧ v = value * 256 + b ∧ out = []) ∨ (m = 1 ∧ mny = many + 2 ∧ v = (value * 256 + b) % pow2 (many + 2) ∧ out = [signOf ((value * 256 + b) / pow2 (many + 2))]) ∨
        (m = 0 ∧ many = 4 ∧ mny = 0 ∧ v = 0 ∧ out = [signOf ((value * 256 + b) / pow2 (many + 2)), signOf ((value * 256 + b) % pow2 (many + 2))]))) 2
      ⟨rfl, by wtm_at "h", by wtm_at "only", many + 8, value * 256 + b, [], by wtm_at "h", upd_same, Or.inl ⟨rfl, rfl, rfl, rfl⟩⟩ ?_
    rintro m σ H' ⟨rfl, hl', ho, mny, v, out, hp', hf', hcase⟩
    wtm_at "x"
    refine ite_d (fun hc => ?_) fun hc => ?_
    · have hA : (m = 2 ∧ mny = many + 8 ∧ v = value * 256 + b ∧ out = []) ∨ (m = 1 ∧ many = 4 ∧ mny = many + 2 ∧ v = (value * 256 + b) % pow2 (many + 2) ∧ out = [signOf ((value * 256 + b) / pow2 (many + 2))]) := by
        rcases hcase with h | ⟨a1, a2, a3, a4⟩ | ⟨_, _, a3, _⟩
        · exact Or.inl h
        · exact Or.inr ⟨a1, by omega, a2, a3, a4⟩
        · omega
      have hB : 0 ≤ mny - 6 ∧ mny - 6 ≤ 6 ∧ 0 < pow2 (mny - 6) ∧ pow2 (mny - 6) ≤ 64 ∧ 0 ≤ v / pow2 (mny - 6) ∧ v / pow2 (mny - 6) < 64 ∧ out.length ≤ 1 := by
        rcases hA with ⟨_, rfl, rfl, rfl⟩ | ⟨_, rfl, rfl, rfl, rfl⟩
        · rw [e1]
          exact ⟨by omega, by omega, g5, g6, g1, g2, by simp⟩
        · have e2 : pow2 (4 + 2 - 6) = 1 := rfl
          rw [e2]
          have e3 : pow2 (4 + 2) = 64 := rfl
          rw [e3] at g3 g4 ⊢
          exact ⟨by omega, by omega, by omega, by omega, by omega, by omega, by simp⟩
      obtain ⟨b1, b2, b3, b4, b5, b6, b7⟩ := hB
      have hfd : v.fdiv (pow2 (mny - 6)) = v / pow2 (mny - 6) := fdiv_pos (by omega)
      have hfm : v.fmod (pow2 (mny - 6)) = v % pow2 (mny - 6) := fmod_pos (by omega)
      have hol : (iV out).length < sizeLine := by rw [iV_length, sizeLine_eq]; omega
      have hix : atI (iV powersT) (mny - 6) = some (V.int (pow2 (mny - 6))) := gI_at b1 (by show mny - 6 < 8; omega)
      have hiy : atI (iV signsT) (v / pow2 (mny - 6)) = some (V.int (signOf (v / pow2 (mny - 6)))) := gI_at b5 (by show v / pow2 (mny - 6) < 64; omega)
      refine ⟨fun σ2 H2 => σ2 = [some (.ref p), some (.int b), some (.ref f)] ∧ H2 l = some (.own p) ∧ Only' [p] H H2 ∧ H2 p = some (.ins (He.ga K "SignsWriter") l [("many", .int (mny - 6)), ("value", .int (v % pow2 (mny - 6)))]) ∧ H2 f = some (.lst (iV (out ++ [signOf (v / pow2 (mny - 6))]))), ?_, ?_⟩
      · rintro σ2 H2 ⟨rfl, a1, a2, a3, a4⟩
        rcases hA with ⟨rfl, rfl, rfl, rfl⟩ | ⟨rfl, rfl, rfl, rfl, rfl⟩
        · rw [e1] at a3 a4
          exact ⟨1, by decide, rfl, a1, a2, _, _, _, a3, a4, Or.inr (Or.inl ⟨rfl, rfl, rfl, rfl⟩)⟩
        · have e2 : pow2 (4 + 2 - 6) = 1 := rfl
          rw [e2, Int.ediv_one] at a4
          rw [e2, Int.emod_one] at a3
          exact ⟨0, by decide, rfl, a1, a2, _, _, _, a3, a4, Or.inr (Or.inr ⟨rfl, rfl, by omega, rfl, rfl⟩)⟩
      · wtm_at "x"
        refine x_ixT (hpow _) hix ?_
        wtm_at "x"
        rw [hfd]
        refine x_ixT (hsig _) hiy ?_
        wtm_at "x"
        refine x_ixT (hpow _) hix ?_
        wtm_at "x"
        rw [hfm]
        refine ⟨rfl, by wtm_at "h", ?_, by wtm_at "h", ?_⟩
        · exact ((ho.put (by simp)).put0 hf0).put (by simp)
        · rw [iV_snoc]
          wtm_at "h"
    · wtm_at "x"
      have hcase2 : (mny = many + 2 ∧ v = (value * 256 + b) % pow2 (many + 2) ∧ out = [signOf ((value * 256 + b) / pow2 (many + 2))] ∧ ¬ many + 2 ≥ 6) ∨ (many = 4 ∧ mny = 0 ∧ v = 0 ∧ out = [signOf ((value * 256 + b) / pow2 (many + 2)), signOf ((value * 256 + b) % pow2 (many + 2))]) := by
        rcases hcase with ⟨_, a1, _⟩ | ⟨_, a2, a3, a4⟩ | ⟨_, a2, a3, a4, a5⟩
        · omega
        · exact Or.inl ⟨a2, a3, a4, by omega⟩
        · exact Or.inr ⟨a2, a3, a4, a5⟩
      have he : wtake (.signs many value) b = (out, .signs mny v) := by
        show takeSigns many value b = _
        unfold takeSigns
        rcases hcase2 with ⟨rfl, rfl, rfl, hn⟩ | ⟨rfl, rfl, rfl, rfl⟩
        · rw [if_neg hn]
        · rw [if_pos (by decide)]
          have e2 : pow2 (4 + 2 - 6) = 1 := rfl
          rw [e2, Int.ediv_one, Int.emod_one]
          rfl
      refine q _ l f ?_ (Or.inl rfl) hf0 ?_ (ho.mono (by simp))
      · rw [he]
        exact ⟨hp', hl'⟩
      · rw [he]
        exact hf'
theorem ok_SignsWriter_end (T : Tx K mg) : DefOk P w K mg base 1 (He.ma K (He.ga K "SignsWriter") "end") ["self"] (spWEnd K isSigns) := by
  refine def_ok (N := n_SignsWriter_end) (fn_SignsWriter_end T) sc_SignsWriter_end (fun _ _ _ _ _ _ us hl => match us, hl with | [_], _ => rfl) (fun vs H Q E h => ?_) (fun cdv A outer s H vs Q E hr h => ?_)
  · obtain ⟨p, l, st, rfl, _⟩ := h
    rfl
  · obtain ⟨p, l, st, rfl, hst, hw, hk, q⟩ := h
    cases st <;> simp only [isSigns] at hst
    rename_i many value
    obtain ⟨hp, hl⟩ := hw
    obtain ⟨k1, k2, k3⟩ := hk
    have hv : value < 64 := by
      rcases k1 with rfl | rfl | rfl
      · rw [pow2_0] at k3; omega
      · rw [pow2_2] at k3; omega
      · rw [pow2_4] at k3; omega
    refine ⟨_, [_], (pss_cons (ps_if (pt_cmpR op_eq (pe_fld (pv 0) rfl) pe_int (nomark _)) (pss_one (ps_ret (pe_lst pa_nil))) pss_nil)
      (pss_one (ps_ret (pe_lst (pa_cons (pe_ix ix_tup (pe_gr (g_SIGNS T)) (pe_op op_mul (pe_fld (pv 0) rfl) (pe_ix ix_tup (pe_gr (g_POWERS T)) (pe_op op_sub pe_int (pe_fld (pv 0) rfl)) (fun _ _ => rfl))) (fun _ _ => rfl)) pa_nil))))), rfl, ?_⟩
    try dsimp only [cxOf]
    wtm_at "x"
    refine ite_d (fun hc => ?_) fun hc => ?_
    · wtm_at "x"
      intro r hr
      refine q _ l r ⟨by wtm_at "h", by wtm_at "h"⟩ (Or.inl rfl) hr ?_ (by wtm_at "only")
      rw [upd_same]
      show _ = some (HO.lst (iV (if many = 0 then [] else _)))
      rw [if_pos hc]
      rfl
    · have hix : atI (iV powersT) (6 - many) = some (V.int (pow2 (6 - many))) := gI_at (by omega) (by show 6 - many < 8; omega)
      have hiz : 0 ≤ value * pow2 (6 - many) ∧ value * pow2 (6 - many) < 64 := by
        rcases k1 with rfl | rfl | rfl
        · exact absurd rfl hc
        · rw [pow2_2] at k3
          rw [show pow2 (6 - 2) = 16 from rfl]
          omega
        · rw [pow2_4] at k3
          rw [show pow2 (6 - 4) = 4 from rfl]
          omega
      have hiy : atI (iV signsT) (value * pow2 (6 - many)) = some (V.int (signOf (value * pow2 (6 - many)))) := gI_at hiz.1 (by show _ < 64; omega)
      wtm_at "x"
      refine x_ixT (t_POWERS T _) hix ?_
      wtm_at "x"
      refine x_ixT (t_SIGNS T _) hiy ?_
      wtm_at "x"
      intro r hr
      refine q _ l r ⟨by wtm_at "h", by wtm_at "h"⟩ (Or.inl rfl) hr ?_ (by wtm_at "only")
      rw [upd_same]
      show _ = some (HO.lst (iV (if many = 0 then [] else _)))
      rw [if_neg hc]
      rfl
end
end Flow

namespace Flow
open PySem PySem.Spec PyProof.Rows L2
/-! ### layers as tuples -/
def goodRaw (k : Str) (xs : Row) : Bool :=
  if k ∈ (["runs", "front", "signs"] : List Str) then decide (((rawLen xs : Nat) : Int) = 1)
  else if k = "add" then (decide ((1 : Int) ≤ (rawLen xs : Int) - 1) && decide ((rawLen xs : Int) - 1 ≤ 8)) && xs.all fun b => decide (0 ≤ b) && decide (b ≤ 255)
  else if k ∈ (["chunks", "checks"] : List Str) then decide (((rawLen xs : Nat) : Int) = 2) && (decide (1 ≤ gI xs 0) && decide (gI xs 0 ≤ 255))
  else decide (k = "escape") && (decide (((rawLen xs : Nat) : Int) = 2) && (decide (0 ≤ gI xs 0) && decide (gI xs 0 ≤ 255)))
where rawLen (xs : Row) : Nat := xs.length + 1
def rawV (k : Str) (xs : Row) : List V := .str k :: iV xs
def lkind : Lay → Str
  | .add _ => "add"
  | .front => "front"
  | .esc _ => "escape"
  | .runs => "runs"
  | .chunks _ => "chunks"
  | .checks _ => "checks"
  | .signs => "signs"
def largs : Lay → Row
  | .add key => key
  | .front => []
  | .esc b => [b]
  | .runs => []
  | .chunks n => [n]
  | .checks n => [n]
  | .signs => []
def layV (l : Lay) : List V := rawV (lkind l) (largs l)
theorem good_lay {l : Lay} (h : l.Ok) : goodRaw (lkind l) (largs l) = true := by
  cases l with
  | add key =>
    obtain ⟨h1, h2, h3⟩ := h
    unfold goodRaw
    rw [if_neg (by show ¬ ("add" : Str) ∈ _; decide +kernel), if_pos (show lkind (Lay.add key) = "add" from rfl)]
    have e : largs (.add key) = key := rfl
    rw [e]
    simp only [goodRaw.rawLen, Bool.and_eq_true, decide_eq_true_eq, List.all_eq_true]
    refine ⟨⟨decide_eq_true (show (1 : Int) ≤ ((key.length + 1 : Nat) : Int) - 1 by omega), decide_eq_true (show ((key.length + 1 : Nat) : Int) - 1 ≤ 8 by omega)⟩, fun x hx => ?_⟩
    have := h3 x hx
    unfold By at this
    omega
  | front => decide +kernel
  | esc b =>
    obtain ⟨h1, h2⟩ := h
    unfold goodRaw
    rw [if_neg (by show ¬ ("escape" : Str) ∈ _; decide +kernel), if_neg (by show ¬ ("escape" : Str) = "add"; decide +kernel), if_neg (by show ¬ ("escape" : Str) ∈ _; decide +kernel)]
    have e : gI (largs (.esc b)) 0 = b := rfl
    rw [e]
    simp only [lkind, goodRaw.rawLen, Bool.and_eq_true, decide_eq_true_eq]
    refine ⟨trivial, rfl, by omega, by omega⟩
  | runs => decide +kernel
  | chunks n =>
    obtain ⟨h1, h2⟩ := h
    unfold goodRaw
    rw [if_neg (by show ¬ ("chunks" : Str) ∈ _; decide +kernel), if_neg (by show ¬ ("chunks" : Str) = "add"; decide +kernel), if_pos (by show ("chunks" : Str) ∈ _; decide +kernel)]
    have e : gI (largs (.chunks n)) 0 = n := rfl
    rw [e]
    simp only [lkind, goodRaw.rawLen, Bool.and_eq_true, decide_eq_true_eq]
    refine ⟨rfl, by omega, by omega⟩
  | checks n =>
    obtain ⟨h1, h2⟩ := h
    unfold goodRaw
    rw [if_neg (by show ¬ ("checks" : Str) ∈ _; decide +kernel), if_neg (by show ¬ ("checks" : Str) = "add"; decide +kernel), if_pos (by show ("checks" : Str) ∈ _; decide +kernel)]
    have e : gI (largs (.checks n)) 0 = n := rfl
    rw [e]
    simp only [lkind, goodRaw.rawLen, Bool.and_eq_true, decide_eq_true_eq]
    refine ⟨rfl, by omega, by omega⟩
  | signs => decide +kernel
/-- raw layers at the addresses ts -/
structure RawAll (K : PySem.W.Frag) (H : Hp) (ts : List Addr) (ls : List (Str × Row)) : Prop where
  len : ts.length = ls.length
  at_ : ∀ (i : Nat) (t : Addr) (k : Str) (xs : Row), ts[i]? = some t → ls[i]? = some (k, xs) → SqT K H t (rawV k xs)
  few : ∀ (i : Nat) (k : Str) (xs : Row), ls[i]? = some (k, xs) → xs.length ≤ 100
theorem RawAll.ext {K : PySem.W.Frag} {H H' : Hp} {ts : List Addr} {ls : List (Str × Row)} (a : RawAll K H ts ls) (e : Ext H H') : RawAll K H' ts ls := ⟨a.len, fun i t k xs h1 h2 => SqT.ext e (a.at_ i t k xs h1 h2), a.few⟩
def goodAll (ls : List (Str × Row)) : Bool := decide (ls.length ≤ 8) && ls.all fun q => goodRaw q.1 q.2
def rawOf (l : Lay) : Str × Row := (lkind l, largs l)
/-- layers at the list a -/
def LaysAt (K : PySem.W.Frag) (H : Hp) (a : Addr) (ls : List Lay) : Prop := ∃ ts, SqL K H a (ts.map V.ref) ∧ RawAll K H ts (ls.map rawOf)
def spLook (K : PySem.W.Frag) : Sp := fun vs H Q E => ∃ (t : Addr) (k : Str) (xs : Row), vs = [.ref t] ∧ SqT K H t (rawV k xs) ∧ xs.length ≤ 100 ∧
  (goodRaw k xs = true → ∀ H', Ext H H' → Q .non H') ∧ (goodRaw k xs = false → ∀ H', Ext H H' → E (.ref (He.ga K "BadLayer")) none H')
def spLooks (K : PySem.W.Frag) : Sp := fun vs H Q E => ∃ (a : Addr) (ts : List Addr) (ls : List (Str × Row)), vs = [.ref a] ∧ SqL K H a (ts.map V.ref) ∧ RawAll K H ts ls ∧
  (goodAll ls = true → ∀ H', Ext H H' → Q .non H') ∧ (goodAll ls = false → ∀ H', Ext H H' → E (.ref (He.ga K "BadLayer")) none H')
theorem rawV_len (k : Str) (xs : Row) : (rawV k xs).length = xs.length + 1 := by
  unfold rawV
  rw [List.length_cons, iV_length]
theorem ix_kind (k : Str) (xs : Row) : atI (rawV k xs) 0 = some (.str k) := at_of (j := 0) rfl rfl
theorem ix_arg {k : Str} {xs : Row} (h : (((xs.length + 1 : Nat) : Int) = 2)) : atI (rawV k xs) 1 = some (.int (gI xs 0)) := by
  have hl : xs.length = 1 := by omega
  obtain ⟨x, rfl⟩ : ∃ x, xs = [x] := List.length_eq_one_iff.mp hl
  exact at_of (j := 1) rfl rfl
section
variable {P : Program} {w : World} {K : PySem.W.Frag} {mg : Str → Option Value} {base : Heap}
theorem all_map (xs : Row) (f : Int → Bool) : ((List.range xs.length).map fun (i : Nat) => V.bl (f (gI xs (i : Int)))) = (xs.map f).map V.bl := by
  refine List.ext_getElem? fun i => ?_
  rw [List.getElem?_map, List.getElem?_map, List.getElem?_map]
  by_cases h : i < xs.length
  · rw [List.getElem?_range h, List.getElem?_eq_getElem h]
    show some (V.bl (f (gI xs (i : Int)))) = some (V.bl (f xs[i]))
    rw [gI_nat (List.getElem?_eq_getElem h)]
  · rw [List.getElem?_eq_none (by rw [List.length_range]; omega), List.getElem?_eq_none (by omega)]
    rfl
theorem ok_look_layer (T : Tx K mg) : DefOk P w K mg base 1 (He.ga K "look_layer") ["layer"] (spLook K) := by
  refine def_ok (N := n_look_layer) (fn_look_layer T) sc_look_layer (fun _ _ _ _ _ _ us hl => match us, hl with | [_], _ => rfl) (fun vs H Q E h => ?_) (fun cdv A outer s H vs Q E hr h => ?_)
  · obtain ⟨t, k, xs, rfl, _⟩ := h
    rfl
  · obtain ⟨t, k, xs, rfl, ht, hfew, qg, qb⟩ := h
    have fin : ∀ (b : Bool) (H' : Hp), Ext H H' → goodRaw k xs = b → (if (!b) = true then E (.ref (He.ga K "BadLayer")) none H' else Q .non H') := fun b H' e hb => by
      cases b with
      | true => exact iteF (qg hb _ e)
      | false => exact iteT (qb hb _ e)
    refine ⟨_, [_, _, _, _], (pss_cons (ps_set (i := 1) sc_look_layer.nd rfl (Or.inl rfl) (pe_ix ix_tup (pv 0) pe_int (fun _ _ => rfl)))
      (pss_cons (ps_if (pt_cmpR op_in_seq (pv 1) (pe_tup (pa_cons pe_str (pa_cons pe_str (pa_cons pe_str pa_nil)))) (by rfl)) (pss_one (ps_set (i := 2) sc_look_layer.nd rfl (Or.inl rfl) (pe_cmpR op_eq (pe_callB call_lenS rfl (f_len T) (by decide +kernel) (pa_cons (pv 0) pa_nil)) pe_int (nomark _)))) (pss_one (ps_if (pt_cmpR op_eq (pv 1) pe_str (nomark _)) (pss_one (ps_set (i := 2) sc_look_layer.nd rfl (Or.inl rfl) (pe_and (pe_chain op_le op_le pe_int (pe_op op_sub (pe_callB call_lenS rfl (f_len T) (by decide +kernel) (pa_cons (pv 0) pa_nil)) pe_int) pe_int) (pe_one (pe_callB (cr_all rfl) rfl (f_all T) (by decide +kernel) (pa_cons (pe_lc (own := [("byte", 3)]) (g := gName 3) (tt := tYes) rfl sc_look_layer.nd (pi_tup (pe_slice sl_tup (pv 0) (po_some pe_int) po_none)) (blkOk_by (own := [("byte", 3)]) (N := n_look_layer) (sc := defScope s_look_layer) (by decide +kernel)) (fun _ _ _ _ _ => pg_name (i := 3) sc_look_layer.nd rfl (Or.inl rfl)) (fun _ _ _ _ _ => pts_nil) (fun _ _ _ _ _ => (pe_chain op_le op_le pe_int (pv 3) pe_int))) pa_nil)))))) (pss_one (ps_if (pt_cmpR op_in_seq (pv 1) (pe_tup (pa_cons pe_str (pa_cons pe_str pa_nil))) (by rfl)) (pss_one (ps_set (i := 2) sc_look_layer.nd rfl (Or.inl rfl) (pe_and (pe_cmpR op_eq (pe_callB call_lenS rfl (f_len T) (by decide +kernel) (pa_cons (pv 0) pa_nil)) pe_int (nomark _)) (pe_one (pe_chain op_le op_le pe_int (pe_ix ix_tup (pv 0) pe_int (fun _ _ => rfl)) pe_int))))) (pss_one (ps_set (i := 2) sc_look_layer.nd rfl (Or.inl rfl) (pe_and (pe_cmpR op_eq (pv 1) pe_str (nomark _)) (pe_and (pe_cmpR op_eq (pe_callB call_lenS rfl (f_len T) (by decide +kernel) (pa_cons (pv 0) pa_nil)) pe_int (nomark _)) (pe_one (pe_chain op_le op_le pe_int (pe_ix ix_tup (pv 0) pe_int (fun _ _ => rfl)) pe_int)))))))))))
      (pss_one (ps_if (pt_not (pt_val (pv 2))) (pss_one (ps_raise rfl (takes_of rfl rfl rfl rfl) (pmk_own PySem.F.excBase_ValueError (xc_BadLayer T).1 (g_BadLayer T) (xc_BadLayer T).2.1 (raises_own (xc_BadLayer T).2.2.1 (xc_BadLayer T).2.2.2) rfl))) pss_nil)))), rfl, ?_⟩
    try dsimp only [cxOf]
    wtm_at "x"
    refine x_ixT ht (ix_kind k xs) ?_
    wtm_at "x"
    intro p1 hp1
    refine x_inS (["runs", "front", "signs"] : List Str) (Or.inr (SqT.of upd_same)) ?_
    wtm_at "x"
    have e1 : Ext H (upd H p1 (.tup [V.str "runs", V.str "front", V.str "signs"])) := Only'.put0 Only'.refl hp1
    have ht1 := SqT.ext e1 ht
    refine ite_d (fun hc => ?_) fun hc => ?_
    · wtm_at "x"
      rw [rawV_len]
      refine fin _ _ e1 ?_
      unfold goodRaw
      rw [if_pos hc]
      rfl
    · wtm_at "x"
      refine ite_d (fun hk => ?_) fun hk => ?_
      · wtm_at "x"
        rw [rawV_len]
        have hg : goodRaw k xs = ((decide ((1 : Int) ≤ ((xs.length + 1 : Nat) : Int) - 1) && decide (((xs.length + 1 : Nat) : Int) - 1 ≤ 8)) && xs.all fun b => decide (0 ≤ b) && decide (b ≤ 255)) := by
          unfold goodRaw
          rw [if_neg hc, if_pos hk]
          rfl
        refine ite_d (fun h1 => ?_) fun h1 => ?_
        · wtm_at "x"
          refine ite_d (fun h2 => ?_) fun h2 => ?_
          · wtm_at "x"
            refine x_slT ht1 (by rw [rawV_len]; intro z; have := z.1; unfold HT.sIx at this; simp at this) fun t2 ht2 => ?_
            obtain ⟨_, ht20⟩ := upd_none ht2
            rw [show cutV (rawV k xs) (some 1) none = iV xs from cut_from (k := 1) rfl]
            have e2 : Ext H (upd (upd H p1 (.tup [V.str "runs", V.str "front", V.str "signs"])) t2 (.tup (iV xs))) := e1.put0 ht20
            refine x_rLcT (fun (i : Nat) => V.bl ((fun b => decide (0 ≤ b) && decide (b ≤ 255)) (gI xs (i : Int)))) (SqT.of upd_same) (by rw [iV_length, sizeLine_eq]; omega) (fun _ => rfl) (fun i x H1 hi e3 Q' kq => ?_) fun l H1 hl e3 hl1 => ?_
            · obtain ⟨z, hz, rfl⟩ := iV_get hi
              rw [gI_nat hz] at kq
              wtm_at "x"
              refine ite_d (fun hz1 => ?_) fun hz1 => ?_
              · wtm_at "x"
                have := kq H1 Only'.refl
                dsimp only at this
                rw [decide_eq_true hz1, Bool.true_and] at this
                exact this
              · have := kq H1 Only'.refl
                dsimp only at this
                rw [decide_eq_false hz1, Bool.false_and] at this
                exact this
            · rw [iV_length, all_map xs fun b => decide (0 ≤ b) && decide (b ≤ 255)] at hl1
              wtm_at "x"
              refine x_all _ (SqL.of hl1) ?_
              wtm_at "x"
              refine fin _ _ (e2.trans e3) ?_
              rw [hg, decide_eq_true h1, decide_eq_true h2, List.all_map]
              rfl
          · wtm_at "x"
            exact fin false _ e1 (by rw [hg, decide_eq_false h2, Bool.and_false, Bool.false_and])
        · wtm_at "x"
          exact fin false _ e1 (by rw [hg, decide_eq_false h1, Bool.false_and, Bool.false_and])
      · wtm_at "x"
        intro p2 hp2
        obtain ⟨_, hp20⟩ := upd_none hp2
        refine x_inS (["chunks", "checks"] : List Str) (Or.inr (SqT.of upd_same)) ?_
        wtm_at "x"
        have e2 : Ext H (upd (upd H p1 (.tup [V.str "runs", V.str "front", V.str "signs"])) p2 (.tup [V.str "chunks", V.str "checks"])) := e1.put0 hp20
        have ht2 := SqT.ext e2 ht
        refine ite_d (fun hk2 => ?_) fun hk2 => ?_
        · wtm_at "x"
          rw [rawV_len]
          have hg : goodRaw k xs = (decide ((((xs.length + 1 : Nat)) : Int) = 2) && (decide (1 ≤ gI xs 0) && decide (gI xs 0 ≤ 255))) := by
            unfold goodRaw
            rw [if_neg hc, if_neg hk, if_pos hk2]
            rfl
          refine ite_d (fun h1 => ?_) fun h1 => ?_
          · wtm_at "x"
            refine x_ixT ht2 (ix_arg h1) ?_
            wtm_at "x"
            refine ite_d (fun h2 => ?_) fun h2 => ?_
            · wtm_at "x"
              exact fin _ _ e2 (by rw [hg, decide_eq_true h1, decide_eq_true h2, Bool.true_and, Bool.true_and])
            · wtm_at "x"
              exact fin false _ e2 (by rw [hg, decide_eq_false h2, Bool.false_and, Bool.and_false])
          · wtm_at "x"
            exact fin false _ e2 (by rw [hg, decide_eq_false h1, Bool.false_and])
        · wtm_at "x"
          have hg : goodRaw k xs = (decide (k = "escape") && (decide ((((xs.length + 1 : Nat)) : Int) = 2) && (decide (0 ≤ gI xs 0) && decide (gI xs 0 ≤ 255)))) := by
            unfold goodRaw
            rw [if_neg hc, if_neg hk, if_neg hk2]
            rfl
          refine ite_d (fun h0 => ?_) fun h0 => ?_
          · wtm_at "x"
            rw [rawV_len]
            refine ite_d (fun h1 => ?_) fun h1 => ?_
            · wtm_at "x"
              refine x_ixT ht2 (ix_arg h1) ?_
              wtm_at "x"
              refine ite_d (fun h2 => ?_) fun h2 => ?_
              · wtm_at "x"
                exact fin _ _ e2 (by rw [hg, decide_eq_true h0, decide_eq_true h1, decide_eq_true h2, Bool.true_and, Bool.true_and, Bool.true_and])
              · wtm_at "x"
                exact fin false _ e2 (by rw [hg, decide_eq_false h2, Bool.false_and, Bool.and_false, Bool.and_false])
            · wtm_at "x"
              exact fin false _ e2 (by rw [hg, decide_eq_false h1, Bool.false_and, Bool.and_false])
          · wtm_at "x"
            exact fin false _ e2 (by rw [hg, decide_eq_false h0, Bool.false_and])
theorem ok_look_layers (T : Tx K mg) : DefOk P w K mg base 2 (He.ga K "look_layers") ["layers"] (spLooks K) := by
  have D_look_layer := ok_look_layer (P := P) (w := w) (base := base) T
  refine def_ok (N := n_look_layers) (fn_look_layers T) sc_look_layers (fun _ _ _ _ _ _ us hl => match us, hl with | [_], _ => rfl) (fun vs H Q E h => ?_) (fun cdv A outer s H vs Q E hr h => ?_)
  · obtain ⟨a, ts, ls, rfl, _⟩ := h
    rfl
  · obtain ⟨a, ts, ls, rfl, ha, hra, qg, qb⟩ := h
    refine ⟨_, [_, _], (pss_cons (ps_if (pt_cmpR op_gt (pe_callB call_lenS rfl (f_len T) (by decide +kernel) (pa_cons (pv 0) pa_nil)) (pe_ci (c_MOST T)) (nomark _)) (pss_one (ps_raise rfl (takes_of rfl rfl rfl rfl) (pmk_own PySem.F.excBase_ValueError (xc_BadLayer T).1 (g_BadLayer T) (xc_BadLayer T).2.1 (raises_own (xc_BadLayer T).2.2.1 (xc_BadLayer T).2.2.2) rfl))) pss_nil)
      (pss_one (ps_for (passes_of rfl) rfl (pi_list (pv 0)) (pg_name (i := 1) sc_look_layers.nd rfl (Or.inl rfl)) (pss_one (ps_expr (pe_fn D_look_layer (g_look_layer T) (hr.mono (by first | decide | omega)) (fun σ => passAt (takes_of rfl rfl rfl rfl) σ) (pa_cons (pv 1) pa_nil))))))), rfl, ?_⟩
    try dsimp only [cxOf]
    wtm_at "x"
    rw [List.length_map, hra.len]
    refine ite_d (fun hc => ?_) fun hc => ?_
    · refine qb ?_ _ Only'.refl
      unfold goodAll
      rw [decide_eq_false (by omega), Bool.false_and]
    · wtm_at "x"
      refine x_rForL ha (fun i σ H' => (∃ v, σ = [some (.ref a), v]) ∧ Ext H H' ∧ ∀ (j : Nat) (k : Str) (xs : Row), j < i → ls[j]? = some (k, xs) → goodRaw k xs = true) ⟨⟨_, rfl⟩, Only'.refl, fun j k xs hj => absurd hj (by omega)⟩
        (fun i σ H' _ p => SqL.ext p.2.1 ha) ?_ ?_
      · rintro i x σ H' hi ⟨⟨v, rfl⟩, e, hgood⟩
        obtain ⟨t, ht, rfl⟩ : ∃ t, ts[i]? = some t ∧ x = V.ref t := by
          rw [List.getElem?_map] at hi
          cases z : ts[i]? with
          | none => rw [z] at hi; cases hi
          | some t => rw [z] at hi; exact ⟨t, rfl, (Option.some.inj hi).symm⟩
        have hlt : i < ls.length := by rw [← hra.len]; exact (List.getElem?_eq_some_iff.mp ht).1
        have hl := List.getElem?_eq_getElem hlt
        wtm_at "x"
        refine ⟨t, (ls[i]).1, (ls[i]).2, rfl, SqT.ext e (hra.at_ i t _ _ ht hl), hra.few i _ _ hl, fun hg H2 e2 => ?_, fun hg H2 e2 => ?_⟩
        · refine ⟨⟨_, rfl⟩, e.trans e2, fun j k xs hj hjl => ?_⟩
          by_cases hji : j = i
          · subst hji
            rw [hl] at hjl
            have ej : ls[j] = (k, xs) := Option.some.inj hjl
            rw [ej] at hg
            exact hg
          · exact hgood j k xs (by omega) hjl
        · refine qb ?_ _ (e.trans e2)
          unfold goodAll
          have : (ls.all fun q => goodRaw q.1 q.2) = false := by
            rw [List.all_eq_false]
            exact ⟨ls[i], List.getElem_mem hlt, by rw [hg]; decide⟩
          rw [this, Bool.and_false]
      · rintro σ H' ⟨⟨v, rfl⟩, e, hgood⟩
        refine qg ?_ _ e
        unfold goodAll
        rw [List.length_map, hra.len] at hgood
        rw [decide_eq_true (by omega), Bool.true_and, List.all_eq_true]
        intro q hq
        obtain ⟨j, hj, ej⟩ := List.mem_iff_getElem.mp hq
        exact hgood j q.1 q.2 hj (by rw [List.getElem?_eq_getElem hj, ej])
end
end Flow

namespace Flow
open PySem PySem.Spec PyProof.Rows L2
theorem WAt_parts (K : PySem.W.Frag) : PartsP (WAt K) := by
  constructor
  · intro H H' p l s h hp hl
    cases s <;> simp only [WAt] at h ⊢
    · obtain ⟨dx, h1, h2⟩ := h
      exact ⟨dx, hp _ h1, hl _ h2⟩
    · obtain ⟨dx, h1, h2⟩ := h
      exact ⟨dx, hp _ h1, hl _ h2⟩
    · obtain ⟨dx, h1, h2⟩ := h
      exact ⟨dx, hp _ h1, hl _ h2⟩
    · exact ⟨hp _ h.1, hl _ h.2⟩
    · obtain ⟨dx, h1, h2⟩ := h
      exact ⟨dx, hp _ h1, hl _ h2⟩
    · exact ⟨hp _ h.1, hl _ h.2⟩
    · exact ⟨hp _ h.1, hl _ h.2⟩
  · intro H p l s h
    cases s <;> simp only [WAt] at h
    · obtain ⟨dx, h1, h2⟩ := h
      exact ⟨⟨_, h1⟩, ⟨_, h2⟩⟩
    · obtain ⟨dx, h1, h2⟩ := h
      exact ⟨⟨_, h1⟩, ⟨_, h2⟩⟩
    · obtain ⟨dx, h1, h2⟩ := h
      exact ⟨⟨_, h1⟩, ⟨_, h2⟩⟩
    · exact ⟨⟨_, h.1⟩, ⟨_, h.2⟩⟩
    · obtain ⟨dx, h1, h2⟩ := h
      exact ⟨⟨_, h1⟩, ⟨_, h2⟩⟩
    · exact ⟨⟨_, h.1⟩, ⟨_, h.2⟩⟩
    · exact ⟨⟨_, h.1⟩, ⟨_, h.2⟩⟩
theorem WAt_ins {K : PySem.W.Frag} {H : Hp} {p l : Addr} {s : WSt} (h : WAt K H p l s) : ∃ dx fs, H p = some (.ins (He.ga K (WName s)) dx fs) ∧ fs.lookup ("take" : Str) = none ∧ fs.lookup ("end" : Str) = none := by
  cases s <;> simp only [WAt] at h
  · obtain ⟨dx, h1, h2⟩ := h
    exact ⟨_, _, h1, by kernel_rfl, by kernel_rfl⟩
  · obtain ⟨dx, h1, h2⟩ := h
    exact ⟨_, _, h1, by kernel_rfl, by kernel_rfl⟩
  · obtain ⟨dx, h1, h2⟩ := h
    exact ⟨_, _, h1, by kernel_rfl, by kernel_rfl⟩
  · exact ⟨_, _, h.1, by kernel_rfl, by kernel_rfl⟩
  · obtain ⟨dx, h1, h2⟩ := h
    exact ⟨_, _, h1, by kernel_rfl, by kernel_rfl⟩
  · exact ⟨_, _, h.1, by kernel_rfl, by kernel_rfl⟩
  · exact ⟨_, _, h.1, by kernel_rfl, by kernel_rfl⟩
def isLike : WSt → WSt → Prop
  | .add _ _ => isAdd
  | .front _ => isFront
  | .esc _ => isEsc
  | .runs _ _ => isRuns
  | .chunks _ _ => isChunks
  | .checks _ _ _ => isChecks
  | .signs _ _ => isSigns
theorem isLike_self (s : WSt) : isLike s s := by cases s <;> trivial
section
variable {P : Program} {w : World} {K : PySem.W.Frag} {mg : Str → Option Value} {base : Heap}
theorem endC_to (vs : List V) (H : Hp) (Q : VK) (E : XK) (h : spWEnd K isChunks vs H Q E) : spWEndC K vs H Q E := by
  obtain ⟨p, l, st, e, hs, hw, hk, q⟩ := h
  cases st <;> simp only [isChunks] at hs
  obtain ⟨k1, k2, k3, k4⟩ := hk
  exact ⟨p, l, _, _, e, hw, by omega, q⟩
theorem wtake_meth (T : Tx K mg) (s : WSt) : MethOk P w K mg base 5 (He.ga K (WName s)) "take" ["self", "byte"] (spWTake K (isLike s)) := by
  cases s
  · exact ⟨cl_AddWriter T, _, me_AddWriter_take T, (ok_AddWriter_take T).mono (by decide)⟩
  · exact ⟨cl_FrontWriter T, _, me_FrontWriter_take T, (ok_FrontWriter_take T).mono (by decide)⟩
  · exact ⟨cl_EscapeWriter T, _, me_EscapeWriter_take T, (ok_EscapeWriter_take T).mono (by decide)⟩
  · exact ⟨cl_RunsWriter T, _, me_RunsWriter_take T, (ok_RunsWriter_take T).mono (by decide)⟩
  · exact ⟨cl_ChunksWriter T, _, me_ChunksWriter_take T, (ok_ChunksWriter_take T).mono (by decide)⟩
  · exact ⟨cl_ChecksWriter T, _, me_ChecksWriter_take T, (ok_ChecksWriter_take T).mono (by decide)⟩
  · exact ⟨cl_SignsWriter T, _, me_SignsWriter_take T, (ok_SignsWriter_take T).mono (by decide)⟩
theorem wend_meth (T : Tx K mg) (s : WSt) : MethOk P w K mg base 5 (He.ga K (WName s)) "end" ["self"] (spWEnd K (isLike s)) := by
  cases s
  · exact ⟨cl_AddWriter T, _, me_AddWriter_end T, (ok_AddWriter_end T).mono (by decide)⟩
  · exact ⟨cl_FrontWriter T, _, me_FrontWriter_end T, (ok_FrontWriter_end T).mono (by decide)⟩
  · exact ⟨cl_EscapeWriter T, _, me_EscapeWriter_end T, (ok_EscapeWriter_end T).mono (by decide)⟩
  · exact ⟨cl_RunsWriter T, _, me_RunsWriter_end T, ((ok_RunsWriter_end T).mono (by decide)).imp spWEndG.to⟩
  · exact ⟨cl_ChunksWriter T, _, me_ChunksWriter_end T, ((ok_ChunksWriter_end T).mono (by decide)).imp endC_to⟩
  · exact ⟨cl_ChecksWriter T, _, me_ChecksWriter_end T, ((ok_ChecksWriter_end T).mono (by decide)).imp spWEndG.to⟩
  · exact ⟨cl_SignsWriter T, _, me_SignsWriter_end T, (ok_SignsWriter_end T).mono (by decide)⟩
theorem x_wtake (T : Tx K mg) {H : Hp} {p l : Addr} {s : WSt} {b : Int} {E : XK} {ta : TE} {σ : L2.St} {Q : VK} (hw : WAt K H p l s) (hk : WOk s) (hb : By b) (ha : ∀ R : VK, R (.int b) H → ta σ H R)
    (q : ∀ (H' : Hp) (l' r : Addr), WAt K H' p l' (wtake s b).2 → (l' = l ∨ H l' = none) → H r = none → H' r = some (.lst (iV (wtake s b).1)) → Only' [p, l] H H' → Q (.ref r) H') :
    rMu P w K mg base 5 "take" ["self", "byte"] E (tCons ta tNil) σ (.ref p) H Q := by
  obtain ⟨dx, fs, hp, h1, h2⟩ := WAt_ins hw
  refine x_rMu hp (wtake_meth T s) h1 ?_
  refine ha _ ?_
  exact ⟨p, l, s, b, rfl, isLike_self s, hw, hk, hb, q⟩
theorem x_wend (T : Tx K mg) {H : Hp} {p l : Addr} {s : WSt} {E : XK} {σ : L2.St} {Q : VK} (hw : WAt K H p l s) (hk : WOk s)
    (q : ∀ (H' : Hp) (l' r : Addr), WAt K H' p l' (wended s) → (l' = l ∨ H l' = none) → H r = none → H' r = some (.lst (iV (wend s))) → Only' [p, l] H H' → Q (.ref r) H') :
    rMu P w K mg base 5 "end" ["self"] E tNil σ (.ref p) H Q := by
  obtain ⟨dx, fs, hp, h1, h2⟩ := WAt_ins hw
  refine x_rMu hp (wend_meth T s) h2 ?_
  exact ⟨p, l, s, rfl, isLike_self s, hw, hk, q⟩
def spWriterOf (K : PySem.W.Frag) : Sp := fun vs H Q _ => ∃ (t : Addr) (ly : Lay), vs = [.ref t] ∧ SqT K H t (layV ly) ∧ ly.Ok ∧
  ∀ (H' : Hp) (p l : Addr), WAt K H' p l (newW ly) → H p = none → H l = none → p ≠ l → Ext H H' → Q (.ref p) H'
/-- what a made writer leaves -/
theorem made_w {H H' : Hp} {x dx l C : Addr} {s : WSt} (nx : H x = none) (ndx : H dx = none) (ne : dx ≠ x) (hw : WAt K H' x l s) (hl : l = dx ∨ (upd (upd H dx (.own x)) x (.ins C dx [])) l = none) (o : Only' [x] (upd (upd H dx (.own x)) x (.ins C dx [])) H') :
    H l = none ∧ x ≠ l ∧ Ext H H' := by
  have e0 : Ext H (upd (upd H dx (.own x)) x (.ins C dx [])) := (Only'.put0 Only'.refl ndx).put0 nx
  refine ⟨?_, ?_, ?_⟩
  · rcases hl with h | h
    · rw [h]; exact ndx
    · exact (upd_none (upd_none h).2).2
  · rcases hl with h | h
    · rw [h]; exact ne.symm
    · exact (upd_none h).1.symm
  · refine ⟨fun b u hb _ => ?_, fun b u hb => ?_⟩
    · exact o b u (e0 b u hb (by simp)) (by simp; exact ne_of_none hb nx)
    · obtain ⟨u1, h1⟩ := e0.more b u hb
      exact o.more b u1 h1
theorem ok_writer_of (T : Tx K mg) : DefOk P w K mg base 3 (He.ga K "writer_of") ["layer"] (spWriterOf K) := by
  have D_AddWriter : MakeOk P w K mg base 1 (He.ga K "AddWriter") _ _ := ⟨_, mk_AddWriter T, ok_AddWriter_init T⟩
  have D_FrontWriter : MakeOk P w K mg base 1 (He.ga K "FrontWriter") _ _ := ⟨_, mk_FrontWriter T, ok_FrontWriter_init T⟩
  have D_EscapeWriter : MakeOk P w K mg base 1 (He.ga K "EscapeWriter") _ _ := ⟨_, mk_EscapeWriter T, ok_EscapeWriter_init T⟩
  have D_RunsWriter : MakeOk P w K mg base 1 (He.ga K "RunsWriter") _ _ := ⟨_, mk_RunsWriter T, ok_RunsWriter_init T⟩
  have D_ChunksWriter : MakeOk P w K mg base 1 (He.ga K "ChunksWriter") _ _ := ⟨_, mk_ChunksWriter T, ok_ChunksWriter_init T⟩
  have D_ChecksWriter : MakeOk P w K mg base 1 (He.ga K "ChecksWriter") _ _ := ⟨_, mk_ChecksWriter T, ok_ChecksWriter_init T⟩
  have D_SignsWriter : MakeOk P w K mg base 1 (He.ga K "SignsWriter") _ _ := ⟨_, mk_SignsWriter T, ok_SignsWriter_init T⟩
  refine def_ok (N := n_writer_of) (fn_writer_of T) sc_writer_of (fun _ _ _ _ _ _ us hl => match us, hl with | [_], _ => rfl) (fun vs H Q E h => ?_) (fun cdv A outer s H vs Q E hr h => ?_)
  · obtain ⟨t, ly, rfl, _⟩ := h
    rfl
  · obtain ⟨t, ly, rfl, ht, hok, q⟩ := h
    have hk : atI (layV ly) 0 = some (.str (lkind ly)) := ix_kind _ _
    refine ⟨_, [_], (pss_cons (ps_if (pt_cmpR op_eq (pe_ix ix_tup (pv 0) pe_int (fun _ _ => rfl)) pe_str (nomark _)) (pss_one (ps_ret (pe_mk D_AddWriter (g_AddWriter T) (hr.mono (by first | decide | omega)) (fun _ => passE) (pa_cons (pe_slice sl_tup (pv 0) (po_some pe_int) po_none) pa_nil)))) pss_nil)
      (pss_cons (ps_if (pt_cmpR op_eq (pe_ix ix_tup (pv 0) pe_int (fun _ _ => rfl)) pe_str (nomark _)) (pss_one (ps_ret (pe_mk0 D_FrontWriter (g_FrontWriter T) (hr.mono (by first | decide | omega)) (fun _ => passE)))) pss_nil)
      (pss_cons (ps_if (pt_cmpR op_eq (pe_ix ix_tup (pv 0) pe_int (fun _ _ => rfl)) pe_str (nomark _)) (pss_one (ps_ret (pe_mk D_EscapeWriter (g_EscapeWriter T) (hr.mono (by first | decide | omega)) (fun _ => passE) (pa_cons (pe_ix ix_tup (pv 0) pe_int (fun _ _ => rfl)) pa_nil)))) pss_nil)
      (pss_cons (ps_if (pt_cmpR op_eq (pe_ix ix_tup (pv 0) pe_int (fun _ _ => rfl)) pe_str (nomark _)) (pss_one (ps_ret (pe_mk0 D_RunsWriter (g_RunsWriter T) (hr.mono (by first | decide | omega)) (fun _ => passE)))) pss_nil)
      (pss_cons (ps_if (pt_cmpR op_eq (pe_ix ix_tup (pv 0) pe_int (fun _ _ => rfl)) pe_str (nomark _)) (pss_one (ps_ret (pe_mk D_ChunksWriter (g_ChunksWriter T) (hr.mono (by first | decide | omega)) (fun _ => passE) (pa_cons (pe_ix ix_tup (pv 0) pe_int (fun _ _ => rfl)) pa_nil)))) pss_nil)
      (pss_cons (ps_if (pt_cmpR op_eq (pe_ix ix_tup (pv 0) pe_int (fun _ _ => rfl)) pe_str (nomark _)) (pss_one (ps_ret (pe_mk D_ChecksWriter (g_ChecksWriter T) (hr.mono (by first | decide | omega)) (fun _ => passE) (pa_cons (pe_ix ix_tup (pv 0) pe_int (fun _ _ => rfl)) pa_nil)))) pss_nil)
      (pss_one (ps_ret (pe_mk0 D_SignsWriter (g_SignsWriter T) (hr.mono (by first | decide | omega)) (fun _ => passE)))))))))), rfl, ?_⟩
    try dsimp only [cxOf]
    wtm_at "x"
    refine x_ixT ht hk ?_
    wtm_at "x"
    refine ite_d (fun h0 => ?_) fun h0 => ?_
    · cases ly <;> first | exact absurd (show ("add" : Str) = _ from h0) (by decide +kernel) | exact absurd (show ("front" : Str) = _ from h0) (by decide +kernel) | exact absurd (show ("escape" : Str) = _ from h0) (by decide +kernel) | exact absurd (show ("runs" : Str) = _ from h0) (by decide +kernel) | exact absurd (show ("chunks" : Str) = _ from h0) (by decide +kernel) | exact absurd (show ("checks" : Str) = _ from h0) (by decide +kernel) | exact absurd (show ("signs" : Str) = _ from h0) (by decide +kernel) | skip
      rename_i key
      wtm_at "x"
      refine x_slT ht (by unfold layV; rw [rawV_len]; intro z; have := z.1; unfold HT.sIx at this; simp at this) fun t2 ht2 => ?_
      rw [show cutV (layV (Lay.add key)) (some 1) none = iV key from cut_from (k := 1) rfl]
      wtm_at "x"
      intro x dx nx ndx ne
      refine ⟨x, dx, [.ref t2], .add key 0, rfl, upd_same, by rw [upd_ne ne, upd_same], ⟨t2, key, rfl, rfl, ?_⟩, fun H' l hw hl o => ⟨rfl, ?_⟩⟩
      · exact SqT.ext ((Only'.put0 Only'.refl ndx).put0 nx) (SqT.of upd_same)
      · obtain ⟨m1, m2, m3⟩ := made_w nx ndx ne hw hl o
        exact q _ x l hw (upd_none nx).2 (upd_none m1).2 m2 ((Only'.put0 Only'.refl ht2).trans m3)
    · wtm_at "x"
      refine x_ixT ht hk ?_
      wtm_at "x"
      refine ite_d (fun h1 => ?_) fun h1 => ?_
      · cases ly <;> first | exact absurd (show ("add" : Str) = _ from h1) (by decide +kernel) | exact absurd (show ("front" : Str) = _ from h1) (by decide +kernel) | exact absurd (show ("escape" : Str) = _ from h1) (by decide +kernel) | exact absurd (show ("runs" : Str) = _ from h1) (by decide +kernel) | exact absurd (show ("chunks" : Str) = _ from h1) (by decide +kernel) | exact absurd (show ("checks" : Str) = _ from h1) (by decide +kernel) | exact absurd (show ("signs" : Str) = _ from h1) (by decide +kernel) | skip
        wtm_at "x"
        intro x dx nx ndx ne
        refine ⟨x, dx, [], .front range256, rfl, upd_same, by rw [upd_ne ne, upd_same], ⟨rfl, rfl⟩, fun H' l hw hl o => ⟨rfl, ?_⟩⟩
        obtain ⟨m1, m2, m3⟩ := made_w nx ndx ne hw hl o
        exact q _ x l hw nx m1 m2 m3
      · wtm_at "x"
        refine x_ixT ht hk ?_
        wtm_at "x"
        refine ite_d (fun h2 => ?_) fun h2 => ?_
        · cases ly <;> first | exact absurd (show ("add" : Str) = _ from h2) (by decide +kernel) | exact absurd (show ("front" : Str) = _ from h2) (by decide +kernel) | exact absurd (show ("escape" : Str) = _ from h2) (by decide +kernel) | exact absurd (show ("runs" : Str) = _ from h2) (by decide +kernel) | exact absurd (show ("chunks" : Str) = _ from h2) (by decide +kernel) | exact absurd (show ("checks" : Str) = _ from h2) (by decide +kernel) | exact absurd (show ("signs" : Str) = _ from h2) (by decide +kernel) | skip
          rename_i e
          wtm_at "x"
          refine x_ixT ht (ix_arg (k := "escape") (xs := [e]) rfl) ?_
          wtm_at "x"
          intro x dx nx ndx ne
          refine ⟨x, dx, [.int e], .esc e, rfl, upd_same, by rw [upd_ne ne, upd_same], ⟨e, rfl, rfl⟩, fun H' l hw hl o => ⟨rfl, ?_⟩⟩
          obtain ⟨m1, m2, m3⟩ := made_w nx ndx ne hw hl o
          exact q _ x l hw nx m1 m2 m3
        · wtm_at "x"
          refine x_ixT ht hk ?_
          wtm_at "x"
          refine ite_d (fun h3 => ?_) fun h3 => ?_
          · cases ly <;> first | exact absurd (show ("add" : Str) = _ from h3) (by decide +kernel) | exact absurd (show ("front" : Str) = _ from h3) (by decide +kernel) | exact absurd (show ("escape" : Str) = _ from h3) (by decide +kernel) | exact absurd (show ("runs" : Str) = _ from h3) (by decide +kernel) | exact absurd (show ("chunks" : Str) = _ from h3) (by decide +kernel) | exact absurd (show ("checks" : Str) = _ from h3) (by decide +kernel) | exact absurd (show ("signs" : Str) = _ from h3) (by decide +kernel) | skip
            wtm_at "x"
            intro x dx nx ndx ne
            refine ⟨x, dx, [], .runs 0 0, rfl, upd_same, by rw [upd_ne ne, upd_same], ⟨rfl, rfl⟩, fun H' l hw hl o => ⟨rfl, ?_⟩⟩
            obtain ⟨m1, m2, m3⟩ := made_w nx ndx ne hw hl o
            exact q _ x l hw nx m1 m2 m3
          · wtm_at "x"
            refine x_ixT ht hk ?_
            wtm_at "x"
            refine ite_d (fun h4 => ?_) fun h4 => ?_
            · cases ly <;> first | exact absurd (show ("add" : Str) = _ from h4) (by decide +kernel) | exact absurd (show ("front" : Str) = _ from h4) (by decide +kernel) | exact absurd (show ("escape" : Str) = _ from h4) (by decide +kernel) | exact absurd (show ("runs" : Str) = _ from h4) (by decide +kernel) | exact absurd (show ("chunks" : Str) = _ from h4) (by decide +kernel) | exact absurd (show ("checks" : Str) = _ from h4) (by decide +kernel) | exact absurd (show ("signs" : Str) = _ from h4) (by decide +kernel) | skip
              rename_i n
              wtm_at "x"
              refine x_ixT ht (ix_arg (k := "chunks") (xs := [n]) rfl) ?_
              wtm_at "x"
              intro x dx nx ndx ne
              refine ⟨x, dx, [.int n], .chunks n [], rfl, upd_same, by rw [upd_ne ne, upd_same], ⟨n, rfl, rfl⟩, fun H' l hw hl o => ⟨rfl, ?_⟩⟩
              obtain ⟨m1, m2, m3⟩ := made_w nx ndx ne hw hl o
              exact q _ x l hw nx m1 m2 m3
            · wtm_at "x"
              refine x_ixT ht hk ?_
              wtm_at "x"
              refine ite_d (fun h5 => ?_) fun h5 => ?_
              · cases ly <;> first | exact absurd (show ("add" : Str) = _ from h5) (by decide +kernel) | exact absurd (show ("front" : Str) = _ from h5) (by decide +kernel) | exact absurd (show ("escape" : Str) = _ from h5) (by decide +kernel) | exact absurd (show ("runs" : Str) = _ from h5) (by decide +kernel) | exact absurd (show ("chunks" : Str) = _ from h5) (by decide +kernel) | exact absurd (show ("checks" : Str) = _ from h5) (by decide +kernel) | exact absurd (show ("signs" : Str) = _ from h5) (by decide +kernel) | skip
                rename_i n
                wtm_at "x"
                refine x_ixT ht (ix_arg (k := "checks") (xs := [n]) rfl) ?_
                wtm_at "x"
                intro x dx nx ndx ne
                refine ⟨x, dx, [.int n], .checks n 0 0, rfl, upd_same, by rw [upd_ne ne, upd_same], ⟨n, rfl, rfl⟩, fun H' l hw hl o => ⟨rfl, ?_⟩⟩
                obtain ⟨m1, m2, m3⟩ := made_w nx ndx ne hw hl o
                exact q _ x l hw nx m1 m2 m3
              · cases ly <;> first | exact absurd rfl h0 | exact absurd rfl h1 | exact absurd rfl h2 | exact absurd rfl h3 | exact absurd rfl h4 | exact absurd rfl h5 | skip
                wtm_at "x"
                intro x dx nx ndx ne
                refine ⟨x, dx, [], .signs 0 0, rfl, upd_same, by rw [upd_ne ne, upd_same], ⟨rfl, rfl⟩, fun H' l hw hl o => ⟨rfl, ?_⟩⟩
                obtain ⟨m1, m2, m3⟩ := made_w nx ndx ne hw hl o
                exact q _ x l hw nx m1 m2 m3
end
end Flow

namespace Flow
open PySem PySem.Spec PyProof.Rows L2
theorem WFits.len : ∀ {ss : List WSt} {r : Row}, WFits ss r → r.length ≤ 16777216
  | [], _, h => h
  | _ :: _, _, h => h.1
theorem wfeed_cons (s : WSt) (b : Int) (r : Row) : wfeed s (b :: r) = ((wtake s b).1 ++ (wfeed (wtake s b).2 r).1, (wfeed (wtake s b).2 r).2) := rfl
theorem wthru_cons (s : WSt) (ss : List WSt) (r : Row) : wthru (s :: ss) r = ((wthru ss (wfeed s r).1).1, (wfeed s r).2 :: (wthru ss (wfeed s r).1).2) := rfl
theorem woks_set {ss : List WSt} {n : Nat} {s : WSt} (h : WOks ss) (hs : WOk s) : WOks (ss.set n s) := fun x hx => by
  rcases List.mem_or_eq_of_mem_set hx with h1 | h1
  · exact h x h1
  · rw [h1]; exact hs
def spThrough (K : PySem.W.Frag) : Sp := fun vs H Q _ => ∃ (a rw_ : Addr) (k : Nat) (ps : List (Addr × Addr)) (ss : List WSt) (row : Row), vs = [.ref a, .int (k : Int), .ref rw_] ∧ H a = some (.lst (pV ps)) ∧ Good (WAt K) H ps ss ∧ WOks ss ∧
  H rw_ = some (.lst (iV row)) ∧ rw_ ∉ flat ps ∧ Bys row ∧ WFits (ss.drop k) row ∧ k ≤ ps.length ∧ ps.length ≤ 1000 ∧
  ∀ (H' : Hp) (r : Addr) (ps' : List (Addr × Addr)), Step (WAt K) [] H ps ss H' ps' (ss.take k ++ (wthru (ss.drop k) row).2) → H' r = some (.lst (iV (wthru (ss.drop k) row).1)) → (r = rw_ ∨ H r = none) → r ∉ flat ps' → Q (.ref r) H'
section
variable {P : Program} {w : World} {K : PySem.W.Frag} {mg : Str → Option Value} {base : Heap}
theorem ok_through (T : Tx K mg) : DefOk P w K mg base 6 (He.ga K "through") ["parts", "at", "row"] (spThrough K) := by
  refine def_ok (N := n_through) (fn_through T) sc_through (fun _ _ _ _ _ _ us hl => match us, hl with | [_, _, _], _ => rfl) (fun vs H Q E h => ?_) (fun cdv A outer s H vs Q E hr h => ?_)
  · obtain ⟨a, rw_, k, ps, ss, row, rfl, _⟩ := h
    rfl
  · obtain ⟨a, rw_, k, ps, ss, row, rfl, ha, hg, hok, hrw, nrw, hby, hfit, hk, hfew, q⟩ := h
    have PP := WAt_parts K
    refine ⟨_, [_, _, _, _, _, _], (pss_cons (ps_for (passes_of rfl) rfl (pi_list (pe_slice sl_list (pv 0) (po_some (pv 1)) po_none)) (pg_name (i := 3) sc_through.nd rfl (Or.inl rfl)) (pss_cons (ps_set (i := 4) sc_through.nd rfl (Or.inl rfl) (pe_lst pa_nil))
      (pss_cons (ps_for (passes_of rfl) rfl (pi_list (pv 2)) (pg_name (i := 5) sc_through.nd rfl (Or.inl rfl)) (pss_one (ps_expr (pe_bm PySem.F.plainAttrs_list PySem.F.slot_list_extend PySem.F.type_list_extend mt_extend (pv 4) (pa_cons (pe_mu 5 ["self", "byte"] (hr.mono (by first | decide | omega)) (fun _ => passE) (pv 3) (pa_cons (pv 5) pa_nil)) pa_nil)))))
      (pss_one (ps_set (i := 2) sc_through.nd rfl (Or.inl rfl) (pv 4))))))
      (pss_one (ps_ret (pv 2)))), rfl, ?_⟩
    try dsimp only [cxOf]
    wtm_at "x"
    intro c hc
    rw [cut_from (k := k) rfl]
    have nc : c ∉ flat ps := fun z => by
      obtain ⟨o, e⟩ := hg.trk PP z
      rw [hc] at e
      cases e
    have nca : c ≠ rw_ := (ne_of_none hrw hc).symm
    have e1 : Ext H (upd H c (.lst ((pV ps).drop k))) := Only'.put0 Only'.refl hc
    generalize hH1 : upd H c (.lst ((pV ps).drop k)) = H1 at *
    have hc1 : H1 c = some (.lst ((pV ps).drop k)) := by rw [← hH1]; exact upd_same
    have hg1 : Good (WAt K) H1 ps ss := hg.ext PP e1 fun _ _ z => nomatch z
    have hdl : ((pV ps).drop k).length = ps.length - k := by rw [List.length_drop, pV_len]
    refine x_rForL (SqL.of hc1) (fun i σ H' => ∃ (psi : List (Addr × Addr)) (ssi : List WSt) (rowi : Row) (ri : Addr) (v3 v4 v5 : Option V), σ = [some (.ref a), some (.int (k : Int)), some (.ref ri), v3, v4, v5] ∧
        Step (WAt K) [] H1 ps ss H' psi ssi ∧ H' ri = some (.lst (iV rowi)) ∧ ri ∉ flat psi ∧ (ri = rw_ ∨ H ri = none) ∧ WOks ssi ∧ Bys rowi ∧ WFits (ssi.drop (k + i)) rowi ∧
        (wthru (ssi.drop (k + i)) rowi).1 = (wthru (ss.drop k) row).1 ∧ ssi.take (k + i) ++ (wthru (ssi.drop (k + i)) rowi).2 = ss.take k ++ (wthru (ss.drop k) row).2)
      ⟨ps, ss, row, rw_, none, none, none, rfl, Step.refl hg1, e1 _ _ hrw (by simp), nrw, Or.inl rfl, hok, hby, hfit, rfl, rfl⟩ ?_ ?_ ?_
    · rintro i σ H' _ ⟨psi, ssi, rowi, ri, v3, v4, v5, rfl, st, _⟩
      exact SqL.of (st.only c _ hc1 (by simpa using nc))
    · rintro i x σ H' hi ⟨psi, ssi, rowi, ri, v3, v4, v5, rfl, st, hri, nri, hri0, hoki, hbyi, hfiti, eo, es⟩
      have hilt : i < ps.length - k := by rw [← hdl]; exact (List.getElem?_eq_some_iff.mp hi).1
      have hn : k + i < psi.length := by rw [st.len]; omega
      obtain ⟨⟨p, l0⟩, hpl0⟩ : ∃ y, psi[k + i]? = some y := ⟨_, List.getElem?_eq_getElem hn⟩
      have hx : x = .ref p := by
        rw [List.getElem?_drop, ← pV_fst st.fst, pV_at hpl0] at hi
        exact (Option.some.inj hi).symm
      subst hx
      have hns : k + i < ssi.length := by rw [← st.good.len]; exact hn
      obtain ⟨s0, hs0⟩ : ∃ y, ssi[k + i]? = some y := ⟨_, List.getElem?_eq_getElem hns⟩
      have hd : ssi.drop (k + i) = s0 :: ssi.drop (k + i + 1) := drop_more hs0
      rw [hd] at hfiti eo es
      rw [wthru_cons] at eo es
      obtain ⟨hf0, hf1⟩ := hfiti
      have hlen := WFits.len hf1
      have hok0 : WOk s0 := hoki s0 (List.mem_of_getElem? hs0)
      wtm_at "x"
      intro f hf
      have nfr : f ≠ ri := (ne_of_none hri hf).symm
      have nff : f ∉ flat psi := fun z => by
        obtain ⟨o, e⟩ := st.good.trk PP z
        rw [hf] at e
        cases e
      have e2 : Ext H' (upd H' f (.lst [])) := Only'.put0 Only'.refl hf
      wtm_at "x"
      generalize hH2 : upd H' f (.lst []) = H2 at *
      have hf2 : H2 f = some (.lst []) := by rw [← hH2]; exact upd_same
      have hg2 : Good (WAt K) H2 psi ssi := st.good.ext PP e2 fun _ _ z => nomatch z
      have hr2 : H2 ri = some (.lst (iV rowi)) := e2 _ _ hri (by simp)
      refine x_rForL (SqL.of hr2) (fun j σ Hj => ∃ (psj : List (Addr × Addr)) (sj : WSt) (lj : Addr) (outj : Row) (v5 : Option V), σ = [some (.ref a), some (.int (k : Int)), some (.ref ri), some (.ref p), some (.ref f), v5] ∧
          Step (WAt K) [f] H2 psi ssi Hj psj (ssi.set (k + i) sj) ∧ psj[k + i]? = some (p, lj) ∧ Hj f = some (.lst (iV outj)) ∧ WOk sj ∧
          outj ++ (wfeed sj (rowi.drop j)).1 = (wfeed s0 rowi).1 ∧ (wfeed sj (rowi.drop j)).2 = (wfeed s0 rowi).2)
        ⟨psi, s0, l0, [], v5, rfl, by
          have e : ssi.set (k + i) s0 = ssi := by
            refine List.ext_getElem? fun m => ?_
            by_cases hm : k + i = m
            · subst hm
              rw [List.getElem?_set_self hns, hs0]
            · rw [List.getElem?_set_ne hm]
          rw [e]
          exact Step.refl hg2, hpl0, hf2, hok0, rfl, rfl⟩ ?_ ?_ ?_
      · rintro j σ Hj _ ⟨psj, sj, lj, outj, v5, rfl, stj, _⟩
        exact SqL.of (stj.only ri _ hr2 (by simpa using ⟨nfr.symm, nri⟩))
      · rintro j y σ Hj hj ⟨psj, sj, lj, outj, v5, rfl, stj, hplj, hfj, hokj, eoj, esj⟩
        obtain ⟨b, hb, rfl⟩ := iV_get hj
        have hbb : By b := hbyi b (List.mem_of_getElem? hb)
        rw [drop_more hb, wfeed_cons] at eoj esj
        obtain ⟨ok1, by1⟩ := wtake_ok hokj hbb
        have hw : WAt K Hj p lj sj := stj.good.at_ (k + i) p lj sj hplj (by rw [List.getElem?_set_self hns])
        have nfj : f ∉ flat psj := stj.out hf2 nff
        have nfp : f ≠ p ∧ f ≠ lj := ⟨fun z => nfj (mem_flat.mpr ⟨_, _, _, hplj, Or.inl z⟩), fun z => nfj (mem_flat.mpr ⟨_, _, _, hplj, Or.inr z⟩)⟩
        wtm_at "x"
        refine x_wtake T hw hokj hbb (fun R k => by wtm_at "x"; exact k) fun H3 l' r hw' hl' hr0 hr' ho => ?_
        wtm_at "x"
        have hf3 : H3 f = some (.lst (iV outj)) := ho f _ hfj (by simp [nfp])
        have lenq : outj.length + (wtake sj b).1.length ≤ 16777216 := by
          have := congrArg List.length eoj
          simp only [List.length_append] at this
          omega
        refine x_extend hf3 hr' (by rw [iV_length, iV_length, sizeLine_eq]; exact lenq) ?_
        have one : Step (WAt K) [f] Hj psj (ssi.set (k + i) sj) H3 (psj.set (k + i) (p, l')) ((ssi.set (k + i) sj).set (k + i) (wtake sj b).2) :=
          Step.one PP stj.good hplj (by rw [List.getElem?_set_self hns]) hw' hl' ho
        have st3 := stj.trans one
        rw [List.set_set] at st3
        have nf3 : f ∉ flat (psj.set (k + i) (p, l')) := st3.out hf2 nff
        have hlt : k + i < psj.length := (List.getElem?_eq_some_iff.mp hplj).1
        refine ⟨psj.set (k + i) (p, l'), (wtake sj b).2, l', outj ++ (wtake sj b).1, some (.int b), rfl, st3.put PP (by simp) nf3, List.getElem?_set_self hlt, ?_, ok1, ?_, esj⟩
        · rw [upd_same, iV_append]
        · rw [List.append_assoc]
          exact eoj
      · rintro σ Hj ⟨psj, sj, lj, outj, v5, rfl, stj, hplj, hfj, hokj, eoj, esj⟩
        have hz : rowi.drop (iV rowi).length = [] := by rw [iV_length, List.drop_length]
        rw [hz] at eoj esj
        have eo2 : outj = (wfeed s0 rowi).1 := by
          have : outj ++ ([] : Row) = (wfeed s0 rowi).1 := eoj
          rwa [List.append_nil] at this
        have es2 : sj = (wfeed s0 rowi).2 := esj
        subst es2
        wtm_at "x"
        have st2 : Step (WAt K) [] H' psi ssi Hj psj (ssi.set (k + i) (wfeed s0 rowi).2) := stj.pre e2 fun x hx => Or.inr (by rw [List.mem_singleton.mp hx]; exact hf)
        have stn := st.trans st2
        refine ⟨psj, ssi.set (k + i) (wfeed s0 rowi).2, (wfeed s0 rowi).1, f, _, _, _, rfl, stn, by rw [hfj, eo2], stj.out hf2 nff, Or.inr ?_, woks_set hoki hokj, (wfeed_ok hok0 hbyi).2, ?_, ?_, ?_⟩
        · exact e1.free (st.only.free hf)
        · rw [List.drop_set_of_lt (by omega)]
          exact hf1
        · rw [← Nat.add_assoc, List.drop_set_of_lt (by omega)]
          exact eo
        · rw [← Nat.add_assoc, List.drop_set_of_lt (by omega), ← es]
          have hts : (ssi.set (k + i) (wfeed s0 rowi).2).take (k + i + 1) = ssi.take (k + i) ++ [(wfeed s0 rowi).2] := by
            rw [take_more (List.getElem?_set_self hns), List.take_set_of_le (Nat.le_refl _)]
          rw [hts, List.append_assoc]
          rfl
    · rintro σ H' ⟨psi, ssi, rowi, ri, v3, v4, v5, rfl, st, hri, nri, hri0, hoki, hbyi, hfiti, eo, es⟩
      rw [hdl] at eo es
      have hz : ssi.drop (k + (ps.length - k)) = [] := List.drop_eq_nil_of_le (by rw [← st.good.len, st.len]; omega)
      have ht : ssi.take (k + (ps.length - k)) = ssi := List.take_of_length_le (by rw [← st.good.len, st.len]; omega)
      rw [hz] at eo es
      rw [ht] at es
      have eo2 : rowi = (wthru (ss.drop k) row).1 := eo
      have es2 : ssi = ss.take k ++ (wthru (ss.drop k) row).2 := by
        have : ssi ++ [] = _ := es
        rwa [List.append_nil] at this
      wtm_at "x"
      refine q H' ri psi ?_ (by rw [hri, eo2]) hri0 nri
      rw [← es2]
      exact st.pre e1 fun _ z => nomatch z
end
end Flow

namespace Flow
open PySem PySem.Spec PyProof.Rows L2
theorem good_raw_lay {k : Str} {xs : Row} (h : goodRaw k xs = true) : ∃ ly : Lay, lkind ly = k ∧ largs ly = xs ∧ ly.Ok := by
  unfold goodRaw at h
  split at h
  · rename_i hk
    have hl : xs = [] := by
      have := of_decide_eq_true h
      unfold goodRaw.rawLen at this
      exact List.eq_nil_of_length_eq_zero (by omega)
    subst hl
    simp only [List.mem_cons, List.not_mem_nil, or_false] at hk
    rcases hk with rfl | rfl | rfl
    · exact ⟨.runs, rfl, rfl, trivial⟩
    · exact ⟨.front, rfl, rfl, trivial⟩
    · exact ⟨.signs, rfl, rfl, trivial⟩
  · split at h
    · rename_i hk
      subst hk
      unfold goodRaw.rawLen at h
      simp only [Bool.and_eq_true, decide_eq_true_eq, List.all_eq_true] at h
      obtain ⟨⟨h1, h2⟩, h3⟩ := h
      exact ⟨.add xs, rfl, rfl, by omega, by omega, fun b hb => by have := h3 b hb; unfold By; omega⟩
    · split at h
      · rename_i hk
        unfold goodRaw.rawLen at h
        simp only [Bool.and_eq_true, decide_eq_true_eq] at h
        obtain ⟨h1, h2, h3⟩ := h
        obtain ⟨x, rfl⟩ : ∃ x, xs = [x] := List.length_eq_one_iff.mp (by omega)
        have e : gI [x] 0 = x := rfl
        rw [e] at h2 h3
        simp only [List.mem_cons, List.not_mem_nil, or_false] at hk
        rcases hk with rfl | rfl
        · exact ⟨.chunks x, rfl, rfl, h2, h3⟩
        · exact ⟨.checks x, rfl, rfl, h2, h3⟩
      · unfold goodRaw.rawLen at h
        simp only [Bool.and_eq_true, decide_eq_true_eq] at h
        obtain ⟨hk, h1, h2, h3⟩ := h
        obtain ⟨x, rfl⟩ : ∃ x, xs = [x] := List.length_eq_one_iff.mp (by omega)
        have e : gI [x] 0 = x := rfl
        rw [e] at h2 h3
        subst hk
        exact ⟨.esc x, rfl, rfl, h2, by omega⟩
theorem good_all_lays : ∀ {ls : List (Str × Row)}, (ls.all fun q => goodRaw q.1 q.2) = true → ∃ lays : List Lay, ls = lays.map rawOf ∧ ∀ ly, ly ∈ lays → ly.Ok
  | [], _ => ⟨[], rfl, fun _ h => nomatch h⟩
  | (k, xs) :: r, h => by
    rw [List.all_cons, Bool.and_eq_true] at h
    obtain ⟨ly, e1, e2, ok⟩ := good_raw_lay h.1
    obtain ⟨lays, e, oks⟩ := good_all_lays h.2
    refine ⟨ly :: lays, ?_, fun x hx => ?_⟩
    · rw [e]
      show (k, xs) :: _ = rawOf ly :: _
      unfold rawOf
      rw [e1, e2]
    · rcases List.mem_cons.mp hx with z | z
      · rw [z]; exact ok
      · exact oks x z
theorem good_of_lays {lays : List Lay} (h : ∀ ly, ly ∈ lays → ly.Ok) (h8 : lays.length ≤ 8) : goodAll (lays.map rawOf) = true := by
  unfold goodAll
  rw [List.length_map, decide_eq_true h8, Bool.true_and, List.all_map, List.all_eq_true]
  intro ly hl
  exact good_lay (h ly hl)
theorem Good.snoc {S : Type} {A : Hp → Addr → Addr → S → Prop} {H : Hp} {ps : List (Addr × Addr)} {ss : List S} {p l : Addr} {s : S} (g : Good A H ps ss) (h : A H p l s) (hp : p ∉ flat ps) (hl : l ∉ flat ps) (hn : p ≠ l) : Good A H (ps ++ [(p, l)]) (ss ++ [s]) := by
  refine ⟨by rw [List.length_append, List.length_append, g.len]; rfl, fun i q m t h1 h2 => ?_, ?_⟩
  · by_cases hi : i < ps.length
    · rw [List.getElem?_append_left hi] at h1
      rw [List.getElem?_append_left (by rw [← g.len]; exact hi)] at h2
      exact g.at_ i q m t h1 h2
    · rw [List.getElem?_append_right (by omega)] at h1
      rw [List.getElem?_append_right (by rw [← g.len]; omega), ← g.len] at h2
      cases hd : i - ps.length with
      | zero =>
        rw [hd] at h1 h2
        have e1 := Option.some.inj h1
        have e2 := Option.some.inj h2
        injection e1 with e3 e4
        subst e2 e3 e4
        exact h
      | succ n =>
        rw [hd] at h1
        cases h1
  · rw [flat_app]
    refine List.nodup_append.mpr ⟨g.nd, ?_, ?_⟩
    · show [p, l].Nodup
      simp [hn]
    · intro a ha b hb e
      subst e
      have hb' : a ∈ [p, l] := hb
      rcases List.mem_cons.mp hb' with z | z
      · exact hp (z ▸ ha)
      · exact hl ((List.mem_singleton.mp z) ▸ ha)
/-- a Writer at p, its list of parts at c -/
structure WriterAt (K : PySem.W.Frag) (H : Hp) (p c : Addr) (ps : List (Addr × Addr)) (ss : List WSt) : Prop where
  ob : ∃ dx, H p = some (.ins (He.ga K "Writer") dx [("parts", .ref c)])
  cl : H c = some (.lst (pV ps))
  good : Good (WAt K) H ps ss
  np : p ∉ flat ps
  nc : c ∉ flat ps
  ok : WOks ss
  few : ps.length ≤ 8
theorem WriterAt.step {K : PySem.W.Frag} {H H' : Hp} {p c : Addr} {ps ps' : List (Addr × Addr)} {ss ss' : List WSt} (w : WriterAt K H p c ps ss) (st : Step (WAt K) [] H ps ss H' ps' ss') (ok : WOks ss') : WriterAt K H' p c ps' ss' := by
  obtain ⟨dx, ob⟩ := w.ob
  refine ⟨⟨dx, st.only p _ ob (by simpa using w.np)⟩, ?_, st.good, st.out ob w.np, st.out w.cl w.nc, ok, by rw [st.len]; exact w.few⟩
  rw [pV_fst st.fst]
  exact st.only c _ w.cl (by simpa using w.nc)
theorem WriterAt.ext {K : PySem.W.Frag} {H H' : Hp} {p c : Addr} {ps : List (Addr × Addr)} {ss : List WSt} (w : WriterAt K H p c ps ss) {Z : List Addr} (e : Only' Z H H') (h1 : p ∉ Z) (h2 : c ∉ Z) (h3 : ∀ x, x ∈ flat ps → x ∉ Z) : WriterAt K H' p c ps ss := by
  obtain ⟨dx, ob⟩ := w.ob
  exact ⟨⟨dx, e p _ ob h1⟩, e c _ w.cl h2, w.good.ext (WAt_parts K) e h3, w.np, w.nc, w.ok, w.few⟩
/-- what layers are handed in: raw ones; good: then these -/
def Handed (K : PySem.W.Frag) (H : Hp) (a : Addr) (ls : List (Str × Row)) : Prop := ∃ ts, SqL K H a (ts.map V.ref) ∧ RawAll K H ts ls
theorem Handed.ext {K : PySem.W.Frag} {H H' : Hp} {a : Addr} {ls : List (Str × Row)} (h : Handed K H a ls) (e : Ext H H') : Handed K H' a ls := by
  obtain ⟨ts, h1, h2⟩ := h
  exact ⟨ts, SqL.ext e h1, h2.ext e⟩
def spWriterInit (K : PySem.W.Frag) : Sp := fun vs H Q E => ∃ (p dx a : Addr) (ls : List (Str × Row)), vs = [.ref p, .ref a] ∧ H p = some (.ins (He.ga K "Writer") dx []) ∧ H dx = some (.own p) ∧ Handed K H a ls ∧
  (∀ lays : List Lay, ls = lays.map rawOf → (∀ ly, ly ∈ lays → ly.Ok) → lays.length ≤ 8 → ∀ (H' : Hp) (c : Addr) (ps : List (Addr × Addr)), WriterAt K H' p c ps (lays.map newW) → H c = none → (∀ x, x ∈ flat ps → H x = none) → Only' [p] H H' → Q .non H') ∧
  (goodAll ls = false → ∀ H', Ext H H' → E (.ref (He.ga K "BadLayer")) none H')
def spWriterTake (K : PySem.W.Frag) : Sp := fun vs H Q _ => ∃ (p c rw_ : Addr) (ps : List (Addr × Addr)) (ss : List WSt) (row : Row), vs = [.ref p, .ref rw_] ∧ WriterAt K H p c ps ss ∧ SqL K H rw_ (iV row) ∧ Bys row ∧ WFits ss row ∧
  ∀ (H' : Hp) (r : Addr) (ps' : List (Addr × Addr)), Step (WAt K) [] H ps ss H' ps' (wthru ss row).2 → WriterAt K H' p c ps' (wthru ss row).2 → H' r = some (.lst (iV (wthru ss row).1)) → H r = none → r ∉ flat ps' → Q (.ref r) H'
def spWriterEnd (K : PySem.W.Frag) : Sp := fun vs H Q _ => ∃ (p c : Addr) (ps : List (Addr × Addr)) (ss : List WSt), vs = [.ref p] ∧ WriterAt K H p c ps ss ∧ WEndFits ss.length ss ∧ (wendAll ss.length ss).length ≤ 16777216 ∧
  ∀ (H' : Hp) (r : Addr) (ps' : List (Addr × Addr)) (ss' : List WSt), Step (WAt K) [] H ps ss H' ps' ss' → H' r = some (.lst (iV (wendAll ss.length ss))) → H r = none → r ∉ flat ps' → Q (.ref r) H'
/-- what an end tells is no part's -/
theorem wend_apart {K : PySem.W.Frag} {H : Hp} {p l r : Addr} {s : WSt} (hw : WAt K H p l (wended s)) (hk : WOk s) (hr : H r = some (.lst (iV (wend s)))) : l ≠ r := by
  intro e
  subst e
  cases s <;> simp only [WAt, wended] at hw
  · obtain ⟨dx, _, h⟩ := hw
    rw [hr] at h
    have h1 : iV [] = iV _ := HO.lst.inj (Option.some.inj h)
    have := congrArg List.length h1
    rw [iV_length, iV_length] at this
    have := hk.1
    simp at *
    omega
  · obtain ⟨dx, _, h⟩ := hw
    rw [hr] at h
    have h1 : iV [] = iV _ := HO.lst.inj (Option.some.inj h)
    have := congrArg List.length h1
    rw [iV_length, iV_length] at this
    have := hk.1
    simp at *
    omega
  · obtain ⟨dx, _, h⟩ := hw
    rw [hr] at h
    have h1 : iV [] = iV _ := HO.lst.inj (Option.some.inj h)
    have := congrArg List.length h1
    rw [iV_length, iV_length] at this
    simp [marksOf] at this
  · rw [hr] at hw
    cases hw.2
  · obtain ⟨dx, _, h⟩ := hw
    rw [hr] at h
    have h1 : iV (_ :: _) = iV [] := HO.lst.inj (Option.some.inj h)
    have := congrArg List.length h1
    rw [iV_length, iV_length] at this
    simp at this
  · rw [hr] at hw
    cases hw.2
  · rw [hr] at hw
    cases hw.2
section
variable {P : Program} {w : World} {K : PySem.W.Frag} {mg : Str → Option Value} {base : Heap}
theorem ok_Writer_init (T : Tx K mg) : DefOk P w K mg base 4 (He.ma K (He.ga K "Writer") "__init__") ["self", "layers"] (spWriterInit K) := by
  have D_look_layers := ok_look_layers (P := P) (w := w) (base := base) T
  have D_writer_of := ok_writer_of (P := P) (w := w) (base := base) T
  refine def_ok (N := n_Writer_init) (fn_Writer_init T) sc_Writer_init (fun _ _ _ _ _ _ us hl => match us, hl with | [_, _], _ => rfl) (fun vs H Q E h => ?_) (fun cdv A outer s H vs Q E hr h => ?_)
  · obtain ⟨p, dx, a, ls, rfl, _⟩ := h
    rfl
  · obtain ⟨p, dx, a, ls, rfl, hp, hd, ⟨ts, ha, hra⟩, q, qb⟩ := h
    have PP := WAt_parts K
    refine ⟨_, [_, _, _], (pss_cons (ps_expr (pe_fn D_look_layers (g_look_layers T) (hr.mono (by first | decide | omega)) (fun σ => passAt (takes_of rfl rfl rfl rfl) σ) (pa_cons (pv 1) pa_nil)))
      (pss_one (ps_fld (pv 0) (pe_lc (own := [("layer", 2)]) (g := gName 2) (tt := tYes) rfl sc_Writer_init.nd (pi_list (pv 1)) (blkOk_by (own := [("layer", 2)]) (N := n_Writer_init) (sc := defScope s_Writer_init) (by decide +kernel)) (fun _ _ _ _ _ => pg_name (i := 2) sc_Writer_init.nd rfl (Or.inl rfl)) (fun _ _ _ _ _ => pts_nil) (fun _ _ _ _ _ => (pe_fn D_writer_of (g_writer_of T) (hr.mono (by first | decide | omega)) (fun _ => passE) (pa_cons (pv 2) pa_nil)))) rfl))), rfl, ?_⟩
    try dsimp only [cxOf]
    wtm_at "x"
    refine ⟨a, ts, ls, rfl, ha, hra, fun hg H1 e1 => ?_, qb⟩
    unfold goodAll at hg
    rw [Bool.and_eq_true, decide_eq_true_eq] at hg
    obtain ⟨h8, hall⟩ := hg
    obtain ⟨lays, rfl, oks⟩ := good_all_lays hall
    rw [List.length_map] at h8
    have hra1 := hra.ext e1
    have hlen : ts.length = lays.length := by rw [hra.len, List.length_map]
    wtm_at "x"
    refine ⟨a, rfl, ⟨_, SqL.ext e1 ha⟩, fun D hD => lc_list (K := K) (a := a) (xs := ts.map V.ref) (fun i H' => ∃ ps : List (Addr × Addr), ps.length = i ∧ Good (WAt K) H' ps ((lays.take i).map newW) ∧ (∀ x, x ∈ flat ps → H x = none) ∧ H' D = some (.lst (pV ps)) ∧ D ∉ flat ps ∧ Ext H1 H')
      ⟨[], rfl, ⟨rfl, fun i p l s h => by simp at h, List.nodup_nil⟩, (fun _ h => nomatch h), upd_same, (fun h => nomatch h), Only'.put0 Only'.refl hD⟩ (fun i H' _ ⟨ps, _, _, _, _, _, e⟩ => SqL.ext (e1.trans e) ha) ?_ ?_⟩
    · rintro i x H' hi ⟨ps, hl, hg, hf, hDl, nD, e⟩
      obtain ⟨t, ht, rfl⟩ : ∃ t, ts[i]? = some t ∧ x = V.ref t := by
        rw [List.getElem?_map] at hi
        cases z : ts[i]? with
        | none => rw [z] at hi; cases hi
        | some t => rw [z] at hi; exact ⟨t, rfl, (Option.some.inj hi).symm⟩
      have hilt : i < lays.length := by rw [← hlen]; exact (List.getElem?_eq_some_iff.mp ht).1
      have hly := List.getElem?_eq_getElem hilt
      refine ⟨rfl, ?_⟩
      unfold tYes
      dsimp only
      wtm_at "x"
      refine ⟨t, lays[i], rfl, ?_, oks _ (List.getElem_mem hilt), fun H2 p2 l2 hw n1 n2 ne e2 => ?_⟩
      · exact SqT.ext e (hra1.at_ i t _ _ ht (by rw [List.getElem?_map, hly]; rfl))
      · have hg2 : Good (WAt K) H2 ps ((lays.take i).map newW) := hg.ext PP e2 fun _ _ z => nomatch z
        have np : p2 ∉ flat ps := fun z => by
          obtain ⟨o, eo⟩ := hg.trk PP z
          rw [n1] at eo
          cases eo
        have nl : l2 ∉ flat ps := fun z => by
          obtain ⟨o, eo⟩ := hg.trk PP z
          rw [n2] at eo
          cases eo
        have hD2 := e2 D _ hDl (by simp)
        have nDp : D ≠ p2 := ne_of_none hDl n1
        have nDl : D ≠ l2 := ne_of_none hDl n2
        have hs : (lays.take (i + 1)).map newW = (lays.take i).map newW ++ [newW lays[i]] := by rw [take_more hly, List.map_append]; rfl
        have nD2 : D ∉ flat (ps ++ [(p2, l2)]) := by
          rw [flat_app]
          intro z
          rcases List.mem_append.mp z with z | z
          · exact nD z
          · have z' : D ∈ [p2, l2] := z
            simp [nDp, nDl] at z'
        refine ⟨pV ps, hD2, by rw [pV_len, hl, sizeLine_eq]; omega, ps ++ [(p2, l2)], by rw [List.length_append, hl]; rfl, ?_, fun x hx => ?_, ?_, nD2, ?_⟩
        · rw [hs]
          exact (hg2.snoc hw np nl ne).ext PP (Z := [D]) (Only'.put Only'.refl (by simp)) fun x hx z => nD2 (by rw [← List.mem_singleton.mp z]; exact hx)
        · rw [flat_app] at hx
          rcases List.mem_append.mp hx with z | z
          · exact hf x z
          · have z' : x ∈ [p2, l2] := z
            rcases List.mem_cons.mp z' with z' | z'
            · rw [z']; exact (e1.trans e).free n1
            · rw [List.mem_singleton.mp z']; exact (e1.trans e).free n2
        · rw [upd_same]
          unfold pV
          rw [List.map_append]
          rfl
        · exact (e.trans e2).put0 hD
    · rintro H' ⟨ps, hl, hg, hf, hDl, nD, e⟩
      rw [List.length_map, hlen] at hl hg
      rw [List.take_length] at hg
      have hp' : H' p = some (.ins (He.ga K "Writer") dx []) := (e1.trans e) p _ hp (by simp)
      have npf : p ∉ flat ps := fun z => by
        have := hf p z
        rw [hp] at this
        cases this
      have nDp : D ≠ p := fun z => by
        rw [z] at hD
        rw [e1 p _ hp (by simp)] at hD
        cases hD
      wtm_at "x"
      refine q lays rfl oks h8 _ D ps ⟨⟨dx, by wtm_at "h"⟩, ?_, ?_, npf, nD, fun s hs => ?_, by omega⟩ (e1.free hD) hf ?_
      · exact upd_get nDp hDl
      · exact hg.ext PP (Z := [p]) (Only'.put Only'.refl (by simp)) fun x hx z => npf (by rw [← List.mem_singleton.mp z]; exact hx)
      · obtain ⟨ly, hly, rfl⟩ := List.mem_map.mp hs
        exact newW_ok (oks ly hly)
      · exact ((e1.trans e).mono fun _ h => nomatch h).put (by simp)
theorem ok_Writer_take (T : Tx K mg) : DefOk P w K mg base 7 (He.ma K (He.ga K "Writer") "take") ["self", "row"] (spWriterTake K) := by
  have D_through := ok_through (P := P) (w := w) (base := base) T
  refine def_ok (N := n_Writer_take) (fn_Writer_take T) sc_Writer_take (fun _ _ _ _ _ _ us hl => match us, hl with | [_, _], _ => rfl) (fun vs H Q E h => ?_) (fun cdv A outer s H vs Q E hr h => ?_)
  · obtain ⟨p, c, rw_, ps, ss, row, rfl, _⟩ := h
    rfl
  · obtain ⟨p, c, rw_, ps, ss, row, rfl, hW, hrw, hby, hfit, q⟩ := h
    have PP := WAt_parts K
    obtain ⟨dx, hp⟩ := hW.ob
    refine ⟨_, [_, _], (pss_one (ps_ret (pe_fn D_through (g_through T) (hr.mono (by first | decide | omega)) (fun _ => passE) (pa_cons (pe_fld (pv 0) rfl) (pa_cons pe_int (pa_cons (pe_callTy call_listS rfl (f_list T) (by decide +kernel) (pa_cons (pv 1) pa_nil)) pa_nil)))))), rfl, ?_⟩
    try dsimp only [cxOf]
    wtm_at "x"
    intro r hr0
    have e1 : Ext H (upd H r (.lst (iV row))) := Only'.put0 Only'.refl hr0
    have nr : r ∉ flat ps := fun z => by
      obtain ⟨o, eo⟩ := hW.good.trk PP z
      rw [hr0] at eo
      cases eo
    wtm_at "x"
    have hW1 : WriterAt K (upd H r (.lst (iV row))) p c ps ss := hW.ext e1 (by simp) (by simp) (by simp)
    have hg := hW1.good
    refine ⟨c, r, 0, ps, ss, row, rfl, hW1.cl, hg, hW.ok, upd_same, nr, hby, hfit, Nat.zero_le _, by have := hW.few; omega, fun H' r' ps' st hr' hrr nr' => ?_⟩
    have st2 : Step (WAt K) [] H ps ss H' ps' (wthru ss row).2 := by
      have := st.pre e1 fun _ z => nomatch z
      exact this
    refine q H' r' ps' st2 (hW.step st2 (wthru_ok hW.ok hby).1) hr' ?_ nr'
    rcases hrr with z | z
    · rw [z]; exact hr0
    · exact (upd_none z).2
theorem ok_Writer_end (T : Tx K mg) : DefOk P w K mg base 7 (He.ma K (He.ga K "Writer") "end") ["self"] (spWriterEnd K) := by
  have D_through := ok_through (P := P) (w := w) (base := base) T
  refine def_ok (N := n_Writer_end) (fn_Writer_end T) sc_Writer_end (fun _ _ _ _ _ _ us hl => match us, hl with | [_], _ => rfl) (fun vs H Q E h => ?_) (fun cdv A outer s H vs Q E hr h => ?_)
  · obtain ⟨p, c, ps, ss, rfl, _⟩ := h
    rfl
  · obtain ⟨p, c, ps, ss, rfl, hW, hfit, hz, q⟩ := h
    have PP := WAt_parts K
    obtain ⟨dx, hp⟩ := hW.ob
    have hcl := hW.cl
    have hlen := hW.good.len
    refine ⟨_, [_, _, _], (pss_cons (ps_set (i := 1) sc_Writer_end.nd rfl (Or.inl rfl) (pe_lst pa_nil))
      (pss_cons (ps_for (passes_of rfl) rfl (pi_range1 rfl (f_range T) (pa_cons (pe_callB call_lenS rfl (f_len T) (by decide +kernel) (pa_cons (pe_fld (pv 0) rfl) pa_nil)) pa_nil)) (pg_name (i := 2) sc_Writer_end.nd rfl (Or.inl rfl)) (pss_one (ps_set (i := 1) sc_Writer_end.nd rfl (Or.inl rfl) (pe_op op_cat (pv 1) (pe_fn D_through (g_through T) (hr.mono (by first | decide | omega)) (fun _ => passE) (pa_cons (pe_fld (pv 0) rfl) (pa_cons (pe_op op_add (pv 2) pe_int) (pa_cons (pe_mu0 5 ["self"] (hr.mono (by first | decide | omega)) (fun _ => passE) (pe_ix ix_list (pe_fld (pv 0) rfl) (pv 2) (fun _ _ => rfl))) pa_nil))))))))
      (pss_one (ps_ret (pv 1))))), rfl, ?_⟩
    try dsimp only [cxOf]
    wtm_at "x"
    intro f0 hf0
    have e1 : Ext H (upd H f0 (.lst [])) := Only'.put0 Only'.refl hf0
    have nf0 : f0 ≠ p := (ne_of_none hp hf0).symm
    have nf1 : f0 ≠ c := (ne_of_none hcl hf0).symm
    have nff : f0 ∉ flat ps := fun z => by
      obtain ⟨o, eo⟩ := hW.good.trk PP z
      rw [hf0] at eo
      cases eo
    wtm_at "x"
    have hW1 : WriterAt K (upd H f0 (.lst [])) p c ps ss := hW.ext e1 (by simp) (by simp) (by simp)
    rw [pV_len]
    refine x_rForR1 (k := ps.length) rfl (by have := hW.few; omega) (fun i σ H' => ∃ (psi : List (Addr × Addr)) (ssi : List WSt) (fi : Addr) (outi : Row) (v2 : Option V), σ = [some (.ref p), some (.ref fi), v2] ∧
        Step (WAt K) [] H ps ss H' psi ssi ∧ WriterAt K H' p c psi ssi ∧ H' fi = some (.lst (iV outi)) ∧ fi ∉ flat psi ∧ H fi = none ∧
        WEndFits (ss.length - i) (ssi.drop i) ∧ outi ++ wendAll (ss.length - i) (ssi.drop i) = wendAll ss.length ss)
      ⟨ps, ss, f0, [], none, rfl, Step.pre (X := []) e1 (Step.refl hW1.good) (fun _ z => nomatch z), hW1, upd_same, nff, hf0, hfit, rfl⟩ ?_ ?_
    · rintro i σ H' hi ⟨psi, ssi, fi, outi, v2, rfl, st, hWi, hfi, nfi, hfi0, hfiti, eo⟩
      obtain ⟨dxi, hpi⟩ := hWi.ob
      have hci := hWi.cl
      have hn : i < psi.length := by rw [st.len]; exact hi
      obtain ⟨⟨pp, l0⟩, hpl0⟩ : ∃ y, psi[i]? = some y := ⟨_, List.getElem?_eq_getElem hn⟩
      have hns : i < ssi.length := by rw [← hWi.good.len]; exact hn
      obtain ⟨s0, hs0⟩ : ∃ y, ssi[i]? = some y := ⟨_, List.getElem?_eq_getElem hns⟩
      have hn1 : ss.length - i = (ss.length - (i + 1)) + 1 := by omega
      rw [hn1, drop_more hs0] at hfiti eo
      have hok0 := hWi.ok s0 (List.mem_of_getElem? hs0)
      have hw := hWi.good.at_ i pp l0 s0 hpl0 hs0
      have hlss : ss.length = ssi.length := by rw [← hWi.good.len, st.len, hlen]
      wtm_at "x"
      refine x_ixL (SqL.of hci) (at_of (j := i) rfl (pV_at hpl0)) ?_
      wtm_at "x"
      refine x_wend T hw hok0 fun H1 l' r hw' hl' hr0 hr' ho => ?_
      obtain ⟨okE, byE⟩ := wend_ok hok0
      have st1 : Step (WAt K) [] H' psi ssi H1 (psi.set i (pp, l')) (ssi.set i (wended s0)) := Step.one PP hWi.good hpl0 hs0 hw' hl' ho
      have hW2 := hWi.step st1 (woks_set hWi.ok okE)
      have hdr : (ssi.set i (wended s0)).drop (i + 1) = ssi.drop (i + 1) := List.drop_set_of_lt (by omega)
      have pin : pp ∈ flat psi := mem_flat.mpr ⟨i, pp, l0, hpl0, Or.inl rfl⟩
      have lin : l0 ∈ flat psi := mem_flat.mpr ⟨i, pp, l0, hpl0, Or.inr rfl⟩
      have nlr := wend_apart hw' hok0 hr'
      have nrf : r ∉ flat (psi.set i (pp, l')) := by
        intro z
        rcases st1.old r z with y | y
        · obtain ⟨o, eo2⟩ := hWi.good.trk PP y
          rw [hr0] at eo2
          cases eo2
        · obtain ⟨j, q2, m2, hj, hx⟩ := mem_flat.mp z
          by_cases hji : i = j
          · subst hji
            rw [List.getElem?_set_self hn] at hj
            have e3 := Option.some.inj hj
            injection e3 with e4 e5
            subst e4 e5
            rcases hx with hx | hx
            · obtain ⟨o, eo2⟩ := hWi.good.trk PP pin
              rw [← hx, hr0] at eo2
              cases eo2
            · exact nlr hx.symm
          · rw [List.getElem?_set_ne hji] at hj
            obtain ⟨o, eo2⟩ := hWi.good.trk PP (mem_flat.mpr ⟨j, q2, m2, hj, hx⟩)
            rw [hr0] at eo2
            cases eo2
      wtm_at "x"
      have ei : ((i : Int) + 1) = ((i + 1 : Nat) : Int) := by omega
      rw [ei]
      refine ⟨c, r, i + 1, psi.set i (pp, l'), ssi.set i (wended s0), wend s0, rfl, hW2.cl, hW2.good, hW2.ok, hr', nrf, byE, ?_, ?_, ?_, fun H2 r2 ps2 st2 hr2 hrr nr2 => ?_⟩
      · rw [hdr]
        exact hfiti.1
      · rw [List.length_set]; omega
      · rw [List.length_set]; have := hWi.few; omega
      · rw [hdr] at st2 hr2
        have stA := st1.trans st2
        have hf2 : H2 fi = some (.lst (iV outi)) := stA.only fi _ hfi (by simpa using nfi)
        have lenq : outi.length + (wthru (ssi.drop (i + 1)) (wend s0)).1.length ≤ 16777216 := by
          have := congrArg List.length eo
          simp only [wendAll, List.length_append] at this
          omega
        refine x_cat hf2 hr2 (by rw [iV_length, iV_length, sizeLine_eq]; exact lenq) fun g hg0 => ?_
        wtm_at "x"
        have okT := (wthru_ok (ss := ssi.drop (i + 1)) (r := wend s0) (fun x hx => hWi.ok x (List.mem_of_mem_drop hx)) byE).1
        have ok2 : WOks ((ssi.set i (wended s0)).take (i + 1) ++ (wthru (ssi.drop (i + 1)) (wend s0)).2) := fun x hx => by
          rcases List.mem_append.mp hx with z | z
          · exact hW2.ok x (List.mem_of_mem_take z)
          · exact okT x z
        have stB := (st.trans stA).new PP (o := .lst (iV outi ++ iV (wthru (ssi.drop (i + 1)) (wend s0)).1)) hg0
        have ngf : g ∉ flat ps2 := fun z => by
          obtain ⟨o, eo2⟩ := stA.good.trk PP z
          rw [hg0] at eo2
          cases eo2
        have hdA : ((ssi.set i (wended s0)).take (i + 1) ++ (wthru (ssi.drop (i + 1)) (wend s0)).2).drop (i + 1) = (wthru (ssi.drop (i + 1)) (wend s0)).2 := by
          rw [List.drop_append_of_le_length (by rw [List.length_take, List.length_set]; omega), List.drop_eq_nil_of_le (by rw [List.length_take]; omega)]
          rfl
        refine ⟨ps2, _, g, outi ++ (wthru (ssi.drop (i + 1)) (wend s0)).1, _, rfl, stB, hW.step stB ok2, by rw [upd_same, iV_append], ngf, (st.trans stA).only.free hg0, ?_, ?_⟩
        · rw [hdA]
          exact hfiti.2
        · rw [hdA, List.append_assoc]
          exact eo
    · rintro σ H' ⟨psi, ssi, fi, outi, v2, rfl, st, hWi, hfi, nfi, hfi0, hfiti, eo⟩
      wtm_at "x"
      have e0 : ss.length - ps.length = 0 := by omega
      rw [e0] at eo
      have eo2 : outi = wendAll ss.length ss := by
        have : outi ++ [] = wendAll ss.length ss := eo
        rwa [List.append_nil] at this
      exact q H' fi psi ssi st (by rw [hfi, eo2]) hfi0 nfi
end
end Flow

namespace Flow
open PySem PySem.Spec PyProof.Rows L2
def spWritten (K : PySem.W.Frag) : Sp := fun vs H Q E => ∃ (a rw_ : Addr) (ls : List (Str × Row)) (row : Row), vs = [.ref a, .ref rw_] ∧ Handed K H a ls ∧ SqL K H rw_ (iV row) ∧ Bys row ∧
  (∀ lays : List Lay, ls = lays.map rawOf → (∀ ly, ly ∈ lays → ly.Ok) → lays.length ≤ 8 → WFits (lays.map newW) row ∧ WEndFits lays.length (wthru (lays.map newW) row).2 ∧ (written lays row).length ≤ 16777216 ∧
    ∀ (H' : Hp) (r : Addr), Ext H H' → H r = none → H' r = some (.lst (iV (written lays row))) → Q (.ref r) H') ∧
  (goodAll ls = false → ∀ H', Ext H H' → E (.ref (He.ga K "BadLayer")) none H')
section
variable {P : Program} {w : World} {K : PySem.W.Frag} {mg : Str → Option Value} {base : Heap}
theorem ok_written (T : Tx K mg) : DefOk P w K mg base 8 (He.ga K "written") ["layers", "row"] (spWritten K) := by
  have D_Writer : MakeOk P w K mg base 4 (He.ga K "Writer") _ _ := ⟨_, mk_Writer T, ok_Writer_init T⟩
  have M_Writer_take := meth1 (cl_Writer T) (me_Writer_take T) (ok_Writer_take (P := P) (w := w) (base := base) T)
  have M_Writer_end := meth1 (cl_Writer T) (me_Writer_end T) (ok_Writer_end (P := P) (w := w) (base := base) T)
  refine def_ok (N := n_written) (fn_written T) sc_written (fun _ _ _ _ _ _ us hl => match us, hl with | [_, _], _ => rfl) (fun vs H Q E h => ?_) (fun cdv A outer s H vs Q E hr h => ?_)
  · obtain ⟨a, rw_, ls, row, rfl, _⟩ := h
    rfl
  · obtain ⟨a, rw_, ls, row, rfl, hh, hrw, hby, qg, qb⟩ := h
    refine ⟨_, [_, _, _], (pss_cons (ps_set (i := 2) sc_written.nd rfl (Or.inl rfl) (pe_mk D_Writer (g_Writer T) (hr.mono (by first | decide | omega)) (fun σ => passAt (takes_of rfl rfl rfl rfl) σ) (pa_cons (pv 0) pa_nil)))
      (pss_one (ps_ret (pe_op op_cat (pe_mm M_Writer_take (hr.mono (by first | decide | omega)) (fun _ => passE) (pv 2) (pa_cons (pv 1) pa_nil)) (pe_mm0 M_Writer_end (hr.mono (by first | decide | omega)) (fun _ => passE) (pv 2)))))), rfl, ?_⟩
    try dsimp only [cxOf]
    wtm_at "x"
    intro x dx nx ndx ne
    have e0 : Ext H (upd (upd H dx (.own x)) x (.ins (He.ga K "Writer") dx [])) := (Only'.put0 Only'.refl ndx).put0 nx
    refine ⟨x, dx, a, ls, rfl, upd_same, by rw [upd_ne ne, upd_same], hh.ext e0, fun lays el oks few H1 c ps hW hc hfr ho => ⟨rfl, ?_⟩, fun hg H1 e1 => qb hg H1 (e0.trans e1)⟩
    obtain ⟨f1, f2, f3, q⟩ := qg lays el oks few
    have hl : (wthru (lays.map newW) row).2.length = lays.length := by
      rw [(wthru_ok (ss := lays.map newW) (r := row) hW.ok hby).2.2, List.length_map]
    have e1 : Ext H H1 := by
      refine ⟨fun b u hb _ => ?_, fun b u hb => ?_⟩
      · exact ho b u (e0 b u hb (by simp)) (by simp; exact ne_of_none hb nx)
      · obtain ⟨u1, h1⟩ := e0.more b u hb
        exact ho.more b u1 h1
    have hnone : ∀ y, y ∈ flat ps → H y = none := fun y hy => (upd_none (upd_none (hfr y hy)).2).2
    have hcn : H c = none := (upd_none (upd_none hc).2).2
    obtain ⟨dx1, hx1⟩ := hW.ob
    wtm_at "x"
    refine ⟨x, c, rw_, ps, lays.map newW, row, rfl, hW, SqL.ext e1 hrw, hby, f1, fun H2 r ps2 st2 hW2 hr2 hr0 nr2 => ?_⟩
    obtain ⟨dx2, hx2⟩ := hW2.ob
    have nxp : x ≠ r := ne_of_none hx1 hr0
    wtm_at "x"
    have hl2 : written lays row = (wthru (lays.map newW) row).1 ++ wendAll (wthru (lays.map newW) row).2.length (wthru (lays.map newW) row).2 := by rw [hl]; rfl
    have f3' : (wthru (lays.map newW) row).1.length + (wendAll (wthru (lays.map newW) row).2.length (wthru (lays.map newW) row).2).length ≤ 16777216 := by
      rw [hl2, List.length_append] at f3
      exact f3
    refine ⟨x, c, ps2, (wthru (lays.map newW) row).2, rfl, hW2, by rw [hl]; exact f2, by omega, fun H3 r3 ps3 ss3 st3 hr3 hr30 nr3 => ?_⟩
    have hrr : H3 r = some (.lst (iV (wthru (lays.map newW) row).1)) := st3.only r _ hr2 (by simpa using nr2)
    refine x_cat hrr hr3 (by rw [iV_length, iV_length, sizeLine_eq]; exact f3') fun r4 hr4 => ?_
    have st := st2.trans st3
    have e3 : Ext H H3 := by
      refine ⟨fun b u hb _ => ?_, fun b u hb => ?_⟩
      · exact st.only b u (e1 b u hb (by simp)) (by
          simp only [List.nil_append]
          intro z
          rw [hnone b z] at hb
          cases hb)
      · obtain ⟨u1, h1⟩ := e1.more b u hb
        exact st.only.more b u1 h1
    refine q _ r4 (e3.new hr4) (e3.free hr4) ?_
    rw [upd_same, hl2, iV_append]
end
end Flow

namespace Flow
open PySem PySem.Spec PyProof.Rows L2
/-! ### what the laws draw from a script -/
def lcell (s : Row) (k : Int) : Int := if s = [] then 0 else gI s (k % (s.length : Int))
def lnum (s : Row) (k : Int) : Int := (lcell s k + 104729 * (k + 1)) % 4294967291 * 48271 % 4294967279
def lmix (s : Row) (k : Int) : Int := (lnum s k / 64 * 69621 + lnum s k) % 4294967231
theorem lmix_in (s : Row) (k : Int) : 0 ≤ lmix s k ∧ lmix s k < 4294967231 := ⟨Int.emod_nonneg _ (by decide), Int.emod_lt_of_pos _ (by decide)⟩
def spCell (K : PySem.W.Frag) : Sp := fun vs H Q _ => ∃ (a : Addr) (s : Row) (k : Int), vs = [.ref a, .int k] ∧ SqL K H a (iV s) ∧ Q (.int (lcell s k)) H
def spMix (K : PySem.W.Frag) : Sp := fun vs H Q _ => ∃ (a : Addr) (s : Row) (k : Int), vs = [.ref a, .int k] ∧ SqL K H a (iV s) ∧ Q (.int (lmix s k)) H
def spWhole : Sp := fun vs H Q _ => ∃ i : Int, vs = [.int i] ∧ Q (.bl true) H
def spLawLayer (K : PySem.W.Frag) : Sp := fun vs H Q _ => ∃ (a : Addr) (s : Row) (k : Int), vs = [.ref a, .int k] ∧ SqL K H a (iV s) ∧
  ∀ (ly : Lay) (H' : Hp) (t : Addr), ly.Ok → Ext H H' → H t = none → H' t = some (.tup (layV ly)) → Q (.ref t) H'
/-- layers that the law has made -/
structure Made (K : PySem.W.Frag) (H0 H : Hp) (ts : List Addr) (lays : List Lay) : Prop where
  len : ts.length = lays.length
  at_ : ∀ (i : Nat) (t : Addr) (ly : Lay), ts[i]? = some t → lays[i]? = some ly → H t = some (.tup (layV ly))
  new : ∀ t, t ∈ ts → H0 t = none
  oks : ∀ ly, ly ∈ lays → ly.Ok
theorem Made.ext {K : PySem.W.Frag} {H0 H H' : Hp} {ts : List Addr} {lays : List Lay} (m : Made K H0 H ts lays) (e : Ext H H') : Made K H0 H' ts lays := ⟨m.len, fun i t ly h1 h2 => e t _ (m.at_ i t ly h1 h2) (by simp), m.new, m.oks⟩
theorem Made.snoc {K : PySem.W.Frag} {H0 H : Hp} {ts : List Addr} {lays : List Lay} {t : Addr} {ly : Lay} (m : Made K H0 H ts lays) (h : H t = some (.tup (layV ly))) (n : H0 t = none) (ok : ly.Ok) : Made K H0 H (ts ++ [t]) (lays ++ [ly]) := by
  refine ⟨by rw [List.length_append, List.length_append, m.len]; rfl, fun i u l h1 h2 => ?_, fun u hu => ?_, fun l hl => ?_⟩
  · by_cases hi : i < ts.length
    · rw [List.getElem?_append_left hi] at h1
      rw [List.getElem?_append_left (by rw [← m.len]; exact hi)] at h2
      exact m.at_ i u l h1 h2
    · rw [List.getElem?_append_right (by omega)] at h1
      rw [List.getElem?_append_right (by rw [← m.len]; omega), ← m.len] at h2
      cases hd : i - ts.length with
      | zero =>
        rw [hd] at h1 h2
        have e1 : t = u := Option.some.inj h1
        have e2 : ly = l := Option.some.inj h2
        subst e1 e2
        exact h
      | succ j =>
        rw [hd] at h1
        cases h1
  · rcases List.mem_append.mp hu with z | z
    · exact m.new u z
    · rw [List.mem_singleton.mp z]; exact n
  · rcases List.mem_append.mp hl with z | z
    · exact m.oks l z
    · rw [List.mem_singleton.mp z]; exact ok
theorem lay_few {ly : Lay} (ok : ly.Ok) : (largs ly).length ≤ 8 := by
  cases ly <;> simp only [largs] <;> first | exact ok.2.1 | (simp)
theorem Made.raw {K : PySem.W.Frag} {H0 H : Hp} {ts : List Addr} {lays : List Lay} (m : Made K H0 H ts lays) : RawAll K H ts (lays.map rawOf) := by
  refine ⟨by rw [List.length_map]; exact m.len, fun i t k xs h1 h2 => ?_, fun i k xs h2 => ?_⟩
  · rw [List.getElem?_map] at h2
    cases e : lays[i]? with
    | none => rw [e] at h2; cases h2
    | some ly =>
      rw [e] at h2
      have e2 : rawOf ly = (k, xs) := Option.some.inj h2
      injection e2 with e3 e4
      subst e3 e4
      exact SqT.of (m.at_ i t ly h1 e)
  · rw [List.getElem?_map] at h2
    cases e : lays[i]? with
    | none => rw [e] at h2; cases h2
    | some ly =>
      rw [e] at h2
      have e2 : rawOf ly = (k, xs) := Option.some.inj h2
      injection e2 with e3 e4
      subst e3 e4
      have := lay_few (m.oks ly (List.mem_of_getElem? e))
      omega
theorem Made.handed {K : PySem.W.Frag} {H0 H : Hp} {a : Addr} {ts : List Addr} {lays : List Lay} (m : Made K H0 H ts lays) (h : H a = some (.lst (ts.map V.ref))) : Handed K H a (lays.map rawOf) := ⟨ts, SqL.of h, m.raw⟩
def spLawLayers (K : PySem.W.Frag) : Sp := fun vs H Q _ => ∃ (a : Addr) (s : Row) (k : Int) (most : Nat), vs = [.ref a, .int k, .int (most : Int)] ∧ SqL K H a (iV s) ∧ most ≤ 100 ∧
  ∀ (lays : List Lay) (ts : List Addr) (H' : Hp) (r : Addr), lays.length ≤ most → Ext H H' → H r = none → H' r = some (.lst (ts.map V.ref)) → Made K H H' ts lays → Q (.ref r) H'
def spLawRow (K : PySem.W.Frag) : Sp := fun vs H Q _ => ∃ (a : Addr) (s : Row) (k : Int) (most : Nat) (long : Bool), vs = [.ref a, .int k, .int (most : Int), .bl long] ∧ SqL K H a (iV s) ∧ most ≤ 100 ∧
  ∀ (row : Row) (H' : Hp) (r : Addr), Bys row → (row.length ≤ 256 + 4 * most ∧ (long = false → row.length ≤ 4 * most ∧ ∃ pcs, pcs.length ≤ most ∧ row = flatR pcs)) → Ext H H' → H r = none → H' r = some (.lst (iV row)) → Q (.ref r) H'
def spIsRow (K : PySem.W.Frag) : Sp := fun vs H Q _ => ∃ (a : Addr) (row : Row), vs = [.ref a] ∧ H a = some (.lst (iV row)) ∧ Bys row ∧ row.length ≤ 16777216 ∧ ∀ H', Ext H H' → Q (.bl true) H'
section
variable {P : Program} {w : World} {K : PySem.W.Frag} {mg : Str → Option Value} {base : Heap}
theorem ok_law_cell (T : Tx K mg) : DefOk P w K mg base 1 (He.ga K "_law_cell") ["_law_script", "_law_k"] (spCell K) := by
  refine def_ok (N := n_law_cell) (fn_law_cell T) sc_law_cell (fun _ _ _ _ _ _ us hl => match us, hl with | [_, _], _ => rfl) (fun vs H Q E h => ?_) (fun cdv A outer s H vs Q E hr h => ?_)
  · obtain ⟨a, s, k, rfl, _⟩ := h
    rfl
  · obtain ⟨a, s, k, rfl, hs, q⟩ := h
    refine ⟨_, [_, _], (pss_cons (ps_if (pt_truthS (pv 0) (by intro _; rfl)) (pss_one (ps_ret (pe_ix ix_list (pv 0) (pe_op op_modN (pv 1) (pe_callB call_lenS rfl (f_len T) (by decide +kernel) (pa_cons (pv 0) pa_nil))) (fun _ _ => rfl)))) pss_nil)
      (pss_one (ps_ret pe_int))), rfl, ?_⟩
    try dsimp only [cxOf]
    wtm_at "x"
    refine x_truL hs ?_
    cases s with
    | nil =>
      refine iteF ?_
      wtm_at "x"
      exact q
    | cons y r =>
      refine iteT ?_
      wtm_at "x"
      have e : k.fmod ((iV (y :: r)).length : Int) = k % ((y :: r).length : Int) := by rw [iV_length, fmod_pos (by omega)]
      refine x_rI (by rw [iV_length, List.length_cons]; omega) ?_
      rw [e]
      have hl : (0 : Int) < ((y :: r).length : Int) := by rw [List.length_cons]; omega
      refine x_ixL hs (gI_at (Int.emod_nonneg _ (by omega)) (Int.emod_lt_of_pos _ hl)) ?_
      wtm_at "x"
      have e2 : lcell (y :: r) k = gI (y :: r) (k % ((y :: r).length : Int)) := if_neg (by intro z; cases z)
      rw [e2] at q
      exact q
theorem ok_law_mix (T : Tx K mg) : DefOk P w K mg base 2 (He.ga K "_law_mix") ["_law_script", "_law_k"] (spMix K) := by
  have D_law_cell := ok_law_cell (P := P) (w := w) (base := base) T
  refine def_ok (N := n_law_mix) (fn_law_mix T) sc_law_mix (fun _ _ _ _ _ _ us hl => match us, hl with | [_, _], _ => rfl) (fun vs H Q E h => ?_) (fun cdv A outer s H vs Q E hr h => ?_)
  · obtain ⟨a, s, k, rfl, _⟩ := h
    rfl
  · obtain ⟨a, s, k, rfl, hs, q⟩ := h
    refine ⟨_, [_, _, _], (pss_cons (ps_set (i := 2) sc_law_mix.nd rfl (Or.inl rfl) (pe_op op_mod (pe_op op_add (pe_fn D_law_cell (g_law_cell T) (hr.mono (by first | decide | omega)) (fun _ => passE) (pa_cons (pv 0) (pa_cons (pv 1) pa_nil))) (pe_op op_mul pe_int (pe_op op_add (pv 1) pe_int))) pe_int))
      (pss_cons (ps_set (i := 2) sc_law_mix.nd rfl (Or.inl rfl) (pe_op op_mod (pe_op op_mul (pv 2) pe_int) pe_int))
      (pss_one (ps_ret (pe_op op_mod (pe_op op_add (pe_op op_mul (pe_op op_fdiv (pv 2) pe_int) pe_int) (pv 2)) pe_int))))), rfl, ?_⟩
    try dsimp only [cxOf]
    wtm_at "x"
    refine ⟨a, s, k, rfl, hs, ?_⟩
    wtm_at "x"
    exact q
theorem ok_law_whole (T : Tx K mg) : DefOk P w K mg base 1 (He.ga K "_law_whole") ["_law_found"] spWhole := by
  refine def_ok (N := n_law_whole) (fn_law_whole T) sc_law_whole (fun _ _ _ _ _ _ us hl => match us, hl with | [_], _ => rfl) (fun vs H Q E h => ?_) (fun cdv A outer s H vs Q E hr h => ?_)
  · obtain ⟨i, rfl, _⟩ := h
    rfl
  · obtain ⟨i, rfl, q⟩ := h
    refine ⟨_, [_], (pss_one (ps_ret (pe_and (pe_callB call_isi rfl (f_isinstance T) (by decide +kernel) (pa_cons (pv 0) (pa_cons (pe_bltn (v := .ty "int") rfl (f_int T) (by decide +kernel) rfl) pa_nil))) (pe_one (pe_not (pe_callB call_isi rfl (f_isinstance T) (by decide +kernel) (pa_cons (pv 0) (pa_cons (pe_bltn (v := .ty "bool") rfl (f_bool T) (by decide +kernel) rfl) pa_nil)))))))), rfl, ?_⟩
    try dsimp only [cxOf]
    wtm_at "x"
    refine x_isiI (b := true) (by decide +kernel) ?_
    wtm_at "x"
    refine x_isiI (b := false) (by decide +kernel) ?_
    wtm_at "x"
    exact q
theorem ok_law_layer (T : Tx K mg) : DefOk P w K mg base 3 (He.ga K "_law_layer") ["_law_script", "_law_k"] (spLawLayer K) := by
  have D_law_mix := ok_law_mix (P := P) (w := w) (base := base) T
  refine def_ok (N := n_law_layer) (fn_law_layer T) sc_law_layer (fun _ _ _ _ _ _ us hl => match us, hl with | [_, _], _ => rfl) (fun vs H Q E h => ?_) (fun cdv A outer s H vs Q E hr h => ?_)
  · obtain ⟨a, s, k, rfl, _⟩ := h
    rfl
  · obtain ⟨a, s, k, rfl, hs, q⟩ := h
    obtain ⟨m0, m1⟩ := lmix_in s k
    refine ⟨_, [_, _, _, _, _], (pss_cons (ps_set (i := 2) sc_law_layer.nd rfl (Or.inl rfl) (pe_fn D_law_mix (g_law_mix T) (hr.mono (by first | decide | omega)) (fun _ => passE) (pa_cons (pv 0) (pa_cons (pv 1) pa_nil))))
      (pss_cons (ps_set (i := 3) sc_law_layer.nd rfl (Or.inl rfl) (pe_ix ix_list (pe_lst (pa_cons pe_str (pa_cons pe_str (pa_cons pe_str (pa_cons pe_str (pa_cons pe_str (pa_cons pe_str (pa_cons pe_str (pa_cons pe_str pa_nil))))))))) (pe_op op_mod (pv 2) pe_int) (fun _ _ => rfl)))
      (pss_cons (ps_if (pt_cmpR op_eq (pv 3) pe_str (nomark _)) (pss_one (ps_ret (pe_op op_catT (pe_tup (pa_cons (pv 3) pa_nil)) (pe_callTy call_tupleS rfl (f_tuple T) (by decide +kernel) (pa_cons (pe_lc (own := [("_law_j", 4)]) (g := gName 4) (tt := tYes) rfl sc_law_layer.nd (pi_range1 rfl (f_range T) (pa_cons (pe_op op_add pe_int (pe_op op_mod (pe_op op_fdiv (pv 2) pe_int) pe_int)) pa_nil)) (blkOk_by (own := [("_law_j", 4)]) (N := n_law_layer) (sc := defScope s_law_layer) (by decide +kernel)) (fun _ _ _ _ _ => pg_name (i := 4) sc_law_layer.nd rfl (Or.inl rfl)) (fun _ _ _ _ _ => pts_nil) (fun _ _ _ _ _ => (pe_op op_mod (pe_op op_fdiv (pe_fn D_law_mix (g_law_mix T) (hr.mono (by first | decide | omega)) (fun _ => passE) (pa_cons (pv 0) (pa_cons (pe_op op_add (pe_op op_add (pv 1) pe_int) (pv 4)) pa_nil))) pe_int) pe_int))) pa_nil))))) pss_nil)
      (pss_cons (ps_if (pt_cmpR op_eq (pv 3) pe_str (nomark _)) (pss_one (ps_ret (pe_tup (pa_cons (pv 3) (pa_cons (pe_ix ix_list (pe_lst (pa_cons pe_int (pa_cons pe_int (pa_cons pe_int (pa_cons pe_int (pa_cons pe_int (pa_cons (pe_op op_mod (pe_op op_fdiv (pv 2) pe_int) pe_int) pa_nil))))))) (pe_op op_mod (pe_op op_fdiv (pv 2) pe_int) pe_int) (fun _ _ => rfl)) pa_nil))))) pss_nil)
      (pss_cons (ps_if (pt_cmpR op_in_seq (pv 3) (pe_tup (pa_cons pe_str (pa_cons pe_str pa_nil))) (by rfl)) (pss_one (ps_ret (pe_tup (pa_cons (pv 3) (pa_cons (pe_ix ix_list (pe_lst (pa_cons pe_int (pa_cons pe_int (pa_cons pe_int (pa_cons pe_int (pa_cons pe_int (pa_cons (pe_op op_add pe_int (pe_op op_mod (pe_op op_fdiv (pv 2) pe_int) pe_int)) pa_nil))))))) (pe_op op_mod (pe_op op_fdiv (pv 2) pe_int) pe_int) (fun _ _ => rfl)) pa_nil))))) pss_nil)
      (pss_one (ps_ret (pe_tup (pa_cons (pv 3) pa_nil))))))))), rfl, ?_⟩
    try dsimp only [cxOf]
    wtm_at "x"
    refine ⟨a, s, k, rfl, hs, ?_⟩
    wtm_at "x"
    intro p1 hp1
    have e1 : Ext H (upd H p1 (.lst [V.str "add", V.str "front", V.str "escape", V.str "runs", V.str "chunks", V.str "checks", V.str "signs", V.str "checks"])) := Only'.put0 Only'.refl hp1
    wtm_at "x"
    refine x_ixW (["add", "front", "escape", "runs", "chunks", "checks", "signs", "checks"] : List Str) upd_same (by omega) (by show _ < (8 : Int); omega) fun z hz => ?_
    generalize hH1 : upd H p1 (.lst [V.str "add", V.str "front", V.str "escape", V.str "runs", V.str "chunks", V.str "checks", V.str "signs", V.str "checks"]) = H1 at *
    wtm_at "x"
    refine ite_d (fun ha => ?_) fun ha => ?_
    · wtm_at "x"
      intro p2 hp2
      wtm_at "x"
      have e2 : Ext H (upd H1 p2 (.tup [V.str z])) := e1.new hp2
      refine x_rLcR (k := (1 + lmix s k / 8 % 8).toNat) (fun i => V.int (lmix s (k + 1 + (i : Int)) / 3 % 256)) (by omega) (by omega) (fun _ => rfl) (fun i H2 hi e3 Q' kq => ?_) fun l H2 hl e3 h2 => ?_
      · wtm_at "x"
        refine ⟨a, s, _, rfl, SqL.ext (e2.trans e3) hs, ?_⟩
        wtm_at "x"
        exact kq _ Only'.refl
      · have hrow : (List.range (1 + lmix s k / 8 % 8).toNat).map (fun i : Nat => V.int (lmix s (k + 1 + (i : Int)) / 3 % 256)) = iV ((List.range (1 + lmix s k / 8 % 8).toNat).map fun i : Nat => lmix s (k + 1 + (i : Int)) / 3 % 256) := by
          unfold iV
          rw [List.map_map]
          rfl
        rw [hrow] at h2
        have hlen : ((List.range (1 + lmix s k / 8 % 8).toNat).map fun i : Nat => lmix s (k + 1 + (i : Int)) / 3 % 256).length = (1 + lmix s k / 8 % 8).toNat := by rw [List.length_map, List.length_range]
        have hbys : Bys ((List.range (1 + lmix s k / 8 % 8).toNat).map fun i : Nat => lmix s (k + 1 + (i : Int)) / 3 % 256) := fun b hb => by
          obtain ⟨i, _, rfl⟩ := List.mem_map.mp hb
          exact by_mod _
        generalize ((List.range (1 + lmix s k / 8 % 8).toNat).map fun i : Nat => lmix s (k + 1 + (i : Int)) / 3 % 256) = key at *
        wtm_at "x"
        refine x_tupleOfL (SqL.of h2) fun t2 ht2 => ?_
        wtm_at "x"
        have hp22 : (upd H2 t2 (.tup (iV key))) p2 = some (.tup [V.str z]) := upd_get (ne_of_none (e3 p2 _ upd_same (by simp)) ht2) (e3 p2 _ upd_same (by simp))
        have e4 : Ext H (upd H2 t2 (.tup (iV key))) := (e2.trans e3).new ht2
        refine x_catT (SqT.of hp22) (SqT.of upd_same) (by simp) (by intro y; have := congrArg List.length y; rw [iV_length, hlen] at this; simp at this; omega) (by rw [iV_length, hlen, sizeLine_eq]; simp; omega) fun r hr => ?_
        wtm_at "x"
        subst ha
        exact q (.add key) _ r ⟨by omega, by omega, hbys⟩ (e4.new hr) (e4.free hr) upd_same
    · wtm_at "x"
      refine ite_d (fun hb => ?_) fun hb => ?_
      · wtm_at "x"
        intro p2 hp2
        wtm_at "x"
        refine x_ixI [0, 1, 253, 254, 255, lmix s k / 8 % 256] upd_same (by omega) (by show _ < (6 : Int); omega) fun x hx => ?_
        have hbx : By x := by
          simp only [List.mem_cons, List.not_mem_nil, or_false] at hx
          unfold By
          omega
        wtm_at "x"
        intro r hr
        subst hb
        exact q (.esc x) _ r hbx ((e1.new hp2).new hr) ((e1.new hp2).free hr) upd_same
      · wtm_at "x"
        intro p2 hp2
        refine x_inS (["chunks", "checks"] : List Str) (Or.inr (SqT.of upd_same)) ?_
        wtm_at "x"
        refine ite_d (fun hc => ?_) fun hc => ?_
        · wtm_at "x"
          intro p3 hp3
          wtm_at "x"
          refine x_ixI [1, 2, 3, 5, 255, 1 + lmix s k / 8 % 255] upd_same (by omega) (by show _ < (6 : Int); omega) fun x hx => ?_
          have hbx : 1 ≤ x ∧ x ≤ 255 := by
            simp only [List.mem_cons, List.not_mem_nil, or_false] at hx
            omega
          wtm_at "x"
          intro r hr
          have e5 : Ext H (upd (upd H1 p2 (.tup [V.str "chunks", V.str "checks"])) p3 (.lst [V.int 1, V.int 2, V.int 3, V.int 5, V.int 255, V.int (1 + lmix s k / 8 % 255)])) := (e1.new hp2).new hp3
          rcases List.mem_cons.mp hc with hc | hc
          · subst hc
            exact q (.chunks x) _ r hbx (e5.new hr) (e5.free hr) upd_same
          · have hc := List.mem_singleton.mp hc
            subst hc
            exact q (.checks x) _ r hbx (e5.new hr) (e5.free hr) upd_same
        · wtm_at "x"
          intro r hr
          have e5 : Ext H (upd H1 p2 (.tup [V.str "chunks", V.str "checks"])) := e1.new hp2
          have hz2 : z = "front" ∨ z = "runs" ∨ z = "signs" := by
            simp only [List.mem_cons, List.not_mem_nil, or_false] at hz hc
            rcases hz with h | h | h | h | h | h | h | h
            · exact absurd h ha
            · exact Or.inl h
            · exact absurd h hb
            · exact Or.inr (Or.inl h)
            · exact absurd (Or.inl h) hc
            · exact absurd (Or.inr h) hc
            · exact Or.inr (Or.inr h)
            · exact absurd (Or.inr h) hc
          rcases hz2 with rfl | rfl | rfl
          · exact q .front _ r trivial (e5.new hr) (e5.free hr) upd_same
          · exact q .runs _ r trivial (e5.new hr) (e5.free hr) upd_same
          · exact q .signs _ r trivial (e5.new hr) (e5.free hr) upd_same
theorem ok_law_layers (T : Tx K mg) : DefOk P w K mg base 4 (He.ga K "_law_layers") ["_law_script", "_law_k", "_law_most"] (spLawLayers K) := by
  have D_law_mix := ok_law_mix (P := P) (w := w) (base := base) T
  have D_law_layer := ok_law_layer (P := P) (w := w) (base := base) T
  refine def_ok (N := n_law_layers) (fn_law_layers T) sc_law_layers (fun _ _ _ _ _ _ us hl => match us, hl with | [_, _, _], _ => rfl) (fun vs H Q E h => ?_) (fun cdv A outer s H vs Q E hr h => ?_)
  · obtain ⟨a, s, k, most, rfl, _⟩ := h
    rfl
  · obtain ⟨a, s, k, most, rfl, hs, hm, q⟩ := h
    obtain ⟨m0, m1⟩ := lmix_in s k
    refine ⟨_, [_, _, _, _], (pss_one (ps_ret (pe_lc (own := [("_law_j", 3)]) (g := gName 3) (tt := tYes) rfl sc_law_layers.nd (pi_range1 rfl (f_range T) (pa_cons (pe_op op_modN (pe_fn D_law_mix (g_law_mix T) (hr.mono (by first | decide | omega)) (fun _ => passE) (pa_cons (pv 0) (pa_cons (pv 1) pa_nil))) (pe_op op_add (pv 2) pe_int)) pa_nil)) (blkOk_by (own := [("_law_j", 3)]) (N := n_law_layers) (sc := defScope s_law_layers) (by decide +kernel)) (fun _ _ _ _ _ => pg_name (i := 3) sc_law_layers.nd rfl (Or.inl rfl)) (fun _ _ _ _ _ => pts_nil) (fun _ _ _ _ _ => (pe_fn D_law_layer (g_law_layer T) (hr.mono (by first | decide | omega)) (fun _ => passE) (pa_cons (pv 0) (pa_cons (pe_op op_add (pe_op op_add (pv 1) pe_int) (pe_op op_mul pe_int (pv 3))) pa_nil))))))), rfl, ?_⟩
    try dsimp only [cxOf]
    wtm_at "x"
    refine ⟨a, s, k, rfl, hs, ?_⟩
    wtm_at "x"
    have e0 : (lmix s k).fmod ((most : Int) + 1) = lmix s k % ((most : Int) + 1) := fmod_pos (by omega)
    have b0 := Int.emod_nonneg (lmix s k) (show ((most : Int) + 1) ≠ 0 by omega)
    have b1 := Int.emod_lt_of_pos (lmix s k) (show (0 : Int) < (most : Int) + 1 by omega)
    rw [e0]
    generalize lmix s k % ((most : Int) + 1) = n at *
    refine ⟨n, rfl, by omega, by omega, fun D hD => lc_range (lo := 0) (n := n.toNat) (fun i H' => ∃ (ts : List Addr) (lays : List Lay), ts.length = i ∧ Made K H H' ts lays ∧ H' D = some (.lst (ts.map V.ref)) ∧ Ext H H')
      ⟨[], [], rfl, ⟨rfl, fun i t ly h => by simp at h, (fun _ h => nomatch h), (fun _ h => nomatch h)⟩, upd_same, Only'.put0 Only'.refl hD⟩ ?_ ?_⟩
    · rintro i H' hi ⟨ts, lays, hl, hmd, hDl, e⟩
      rw [Int.zero_add]
      refine ⟨rfl, ?_⟩
      unfold tYes
      dsimp only
      wtm_at "x"
      refine ⟨a, s, _, rfl, SqL.ext e hs, fun ly H2 t ok e2 ht htv => ?_⟩
      have hD2 := e2 D _ hDl (by simp)
      have hnt : D ≠ t := ne_of_none hDl ht
      refine ⟨ts.map V.ref, hD2, by rw [List.length_map, hl, sizeLine_eq]; omega, ts ++ [t], lays ++ [ly], by rw [List.length_append, hl]; rfl, ?_, ?_, ?_⟩
      · have m2 := (hmd.ext e2).snoc htv (e.free ht) ok
        refine ⟨m2.len, fun j u l h1 h2 => ?_, m2.new, m2.oks⟩
        have := m2.at_ j u l h1 h2
        refine upd_get (fun z => ?_) this
        rw [z, hD2] at this
        cases this
      · rw [upd_same, List.map_append]
        rfl
      · exact (e.trans e2).put0 hD
    · rintro H' ⟨ts, lays, hl, hmd, hDl, e⟩
      exact q lays ts H' D (by rw [← hmd.len, hl]; omega) e hD hDl hmd
theorem ok_law_row (T : Tx K mg) : DefOk P w K mg base 3 (He.ga K "_law_row") ["_law_script", "_law_k", "_law_pieces", "_law_long"] (spLawRow K) := by
  have D_law_mix := ok_law_mix (P := P) (w := w) (base := base) T
  refine def_ok (N := n_law_row) (fn_law_row T) sc_law_row (fun _ _ _ _ _ _ us hl => match us, hl with | [_, _, _, _], _ => rfl) (fun vs H Q E h => ?_) (fun cdv A outer s H vs Q E hr h => ?_)
  · obtain ⟨a, s, k, most, long, rfl, _⟩ := h
    rfl
  · obtain ⟨a, s, k, most, long, rfl, hs, hm, q⟩ := h
    refine ⟨_, [_, _, _, _, _, _, _, _, _], (pss_cons (ps_set (i := 4) sc_law_row.nd rfl (Or.inl rfl) (pe_lst pa_nil))
      (pss_cons (ps_for (passes_of rfl) rfl (pi_range1 rfl (f_range T) (pa_cons (pe_op op_modN (pe_fn D_law_mix (g_law_mix T) (hr.mono (by first | decide | omega)) (fun _ => passE) (pa_cons (pv 0) (pa_cons (pv 1) pa_nil))) (pe_op op_add (pv 2) pe_int)) pa_nil)) (pg_name (i := 5) sc_law_row.nd rfl (Or.inl rfl)) (pss_cons (ps_set (i := 6) sc_law_row.nd rfl (Or.inl rfl) (pe_fn D_law_mix (g_law_mix T) (hr.mono (by first | decide | omega)) (fun _ => passE) (pa_cons (pv 0) (pa_cons (pe_op op_add (pe_op op_add (pv 1) pe_int) (pv 5)) pa_nil))))
      (pss_cons (ps_set (i := 7) sc_law_row.nd rfl (Or.inl rfl) (pe_ix ix_list (pe_lst (pa_cons pe_int (pa_cons pe_int (pa_cons pe_int (pa_cons pe_int (pa_cons (pe_op op_mod (pe_op op_fdiv (pv 6) pe_int) pe_int) (pa_cons (pe_op op_mod (pe_op op_fdiv (pv 6) pe_int) pe_int) pa_nil))))))) (pe_op op_mod (pv 6) pe_int) (fun _ _ => rfl)))
      (pss_cons (ps_set (i := 8) sc_law_row.nd rfl (Or.inl rfl) (pe_ix ix_list (pe_lst (pa_cons pe_int (pa_cons pe_int (pa_cons pe_int (pa_cons pe_int (pa_cons pe_int (pa_cons pe_int (pa_cons pe_int (pa_cons pe_int pa_nil))))))))) (pe_op op_mod (pe_op op_fdiv (pv 6) pe_int) pe_int) (fun _ _ => rfl)))
      (pss_cons (ps_if (PW.pt (pw_and (pt_cmpR op_eq (pv 5) pe_int (nomark _)) (pw_and (pt_val (pv 3)) (pw_and1 (pt_cmpR op_eq (pe_op op_mod (pe_op op_fdiv (pv 6) pe_int) pe_int) pe_int (nomark _)))))) (pss_one (ps_set (i := 8) sc_law_row.nd rfl (Or.inl rfl) (pe_ix ix_list (pe_lst (pa_cons pe_int (pa_cons pe_int (pa_cons pe_int (pa_cons pe_int pa_nil))))) (pe_op op_mod (pe_op op_fdiv (pv 6) pe_int) pe_int) (fun _ _ => rfl)))) pss_nil)
      (pss_one (ps_set (i := 4) sc_law_row.nd rfl (Or.inl rfl) (pe_op op_cat (pv 4) (pe_op op_rep (pe_lst (pa_cons (pv 7) pa_nil)) (pv 8))))))))))
      (pss_one (ps_ret (pv 4))))), rfl, ?_⟩
    try dsimp only [cxOf]
    wtm_at "x"
    intro f0 hf0
    have e0 : Ext H (upd H f0 (.lst [])) := Only'.put0 Only'.refl hf0
    wtm_at "x"
    refine ⟨a, s, k, rfl, SqL.ext e0 hs, ?_⟩
    wtm_at "x"
    have em : (lmix s k).fmod ((most : Int) + 1) = lmix s k % ((most : Int) + 1) := fmod_pos (by omega)
    have b0 := Int.emod_nonneg (lmix s k) (show ((most : Int) + 1) ≠ 0 by omega)
    have b1 := Int.emod_lt_of_pos (lmix s k) (show (0 : Int) < (most : Int) + 1 by omega)
    rw [em]
    generalize lmix s k % ((most : Int) + 1) = n at *
    refine x_rForR1 (k := n.toNat) (by omega) (by omega) (fun i σ H' => ∃ (row : Row) (f : Addr) (v5 v6 v7 v8 : Option V), σ = [some (.ref a), some (.int k), some (.int (most : Int)), some (.bl long), some (.ref f), v5, v6, v7, v8] ∧
        H' f = some (.lst (iV row)) ∧ H f = none ∧ Ext H H' ∧ Bys row ∧ row.length ≤ 252 * min i 1 + 4 * i ∧ (long = false → row.length ≤ 4 * i ∧ ∃ pcs, pcs.length = i ∧ row = flatR pcs))
      ⟨[], f0, none, none, none, none, rfl, upd_same, hf0, e0, bys_nil, by simp, fun _ => ⟨Nat.le_refl _, [], rfl, rfl⟩⟩ ?_ ?_
    · rintro i σ H' hi ⟨row, f, v5, v6, v7, v8, rfl, hf, hfn, e, hby, hlen, hsm⟩
      obtain ⟨n0, n1⟩ := lmix_in s (k + 1 + (i : Int))
      wtm_at "x"
      refine ⟨a, s, _, rfl, SqL.ext e hs, ?_⟩
      generalize lmix s (k + 1 + (i : Int)) = nn at *
      wtm_at "x"
      intro p1 hp1
      wtm_at "x"
      refine x_ixI [0, 1, 2, 255, nn / 16 % 256, nn / 16 % 256] upd_same (by omega) (by show _ < (6 : Int); omega) fun b hb => ?_
      have hbb : By b := by
        simp only [List.mem_cons, List.not_mem_nil, or_false] at hb
        unfold By
        omega
      wtm_at "x"
      intro p2 hp2
      wtm_at "x"
      refine x_ixI [1, 1, 2, 3, 1, 1, 4, 1] upd_same (by omega) (by show _ < (8 : Int); omega) fun m hm2 => ?_
      have hmm : 1 ≤ m ∧ m ≤ 4 := by
        simp only [List.mem_cons, List.not_mem_nil, or_false] at hm2
        omega
      have e2 : Ext H (upd (upd H' p1 (.lst [V.int 0, V.int 1, V.int 2, V.int 255, V.int (nn / 16 % 256), V.int (nn / 16 % 256)])) p2 (.lst [V.int 1, V.int 1, V.int 2, V.int 3, V.int 1, V.int 1, V.int 4, V.int 1])) := (e.new hp1).new hp2
      have hf2 : (upd (upd H' p1 (.lst [V.int 0, V.int 1, V.int 2, V.int 255, V.int (nn / 16 % 256), V.int (nn / 16 % 256)])) p2 (.lst [V.int 1, V.int 1, V.int 2, V.int 3, V.int 1, V.int 1, V.int 4, V.int 1])) f = some (.lst (iV row)) :=
        upd_get (ne_of_none (upd_get (ne_of_none hf hp1) hf) hp2) (upd_get (ne_of_none hf hp1) hf)
      generalize (upd (upd H' p1 (.lst [V.int 0, V.int 1, V.int 2, V.int 255, V.int (nn / 16 % 256), V.int (nn / 16 % 256)])) p2 (.lst [V.int 1, V.int 1, V.int 2, V.int 3, V.int 1, V.int 1, V.int 4, V.int 1])) = H2 at *
      have fin : ∀ (m : Int) (H3 : Hp), 0 ≤ m → m ≤ 256 → (i ≠ 0 → m ≤ 4) → (long = false → m ≤ 4) → Ext H H3 → H3 f = some (.lst (iV row)) → ∀ p3, H3 p3 = none → ∀ (Q' : VK), (∀ (r : Addr) (H4 : Hp), H4 r = some (.lst (iV (row ++ List.replicate m.toNat b))) → H r = none → Ext H H4 → Bys (row ++ List.replicate m.toNat b) → (row ++ List.replicate m.toNat b).length ≤ 252 * min (i + 1) 1 + 4 * (i + 1) → (long = false → (row ++ List.replicate m.toNat b).length ≤ 4 * (i + 1) ∧ ∃ pcs, pcs.length = i + 1 ∧ row ++ List.replicate m.toNat b = flatR pcs) → Q' (.ref r) H4) →
          rRep (.ref p3) (.int m) (upd H3 p3 (.lst [V.int b])) fun y H5 => rCat (.ref f) y H5 Q' := by
        intro m H3 h0 h1 h2 h4 e3 hf3 p3 hp3 Q' kq
        refine x_rep1 upd_same h0 (by omega) fun p4 hp4 => ?_
        have hl2 : (row ++ List.replicate m.toNat b).length ≤ 252 * min (i + 1) 1 + 4 * (i + 1) := by
          rw [List.length_append, List.length_replicate]
          by_cases hi0 : i = 0
          · subst hi0
            simp at hlen ⊢
            subst hlen
            simp
            omega
          · have := h2 hi0
            have e1 : min i 1 = 1 := by omega
            have e2 : min (i + 1) 1 = 1 := by omega
            rw [e1] at hlen
            rw [e2]
            omega
        have er : List.replicate m.toNat (V.int b) = iV (List.replicate m.toNat b) := by
          unfold iV
          rw [List.map_replicate]
        have hf4 : (upd (upd H3 p3 (.lst [V.int b])) p4 (.lst (List.replicate m.toNat (V.int b)))) f = some (.lst (iV row)) := upd_get (ne_of_none (upd_get (ne_of_none hf3 hp3) hf3) hp4) (upd_get (ne_of_none hf3 hp3) hf3)
        have e4 : Ext H (upd (upd H3 p3 (.lst [V.int b])) p4 (.lst (List.replicate m.toNat (V.int b)))) := (e3.new hp3).new hp4
        refine x_cat hf4 upd_same (by
          rw [List.length_replicate, iV_length, sizeLine_eq]
          rw [List.length_append, List.length_replicate] at hl2
          omega) fun r hr => ?_
        refine kq r _ (by rw [upd_same, iV_append, er]) (e4.free hr) (e4.new hr) (bys_app hby fun x hx => ?_) hl2 fun hl0 => by
          obtain ⟨g1, pcs, g2, g3⟩ := hsm hl0
          have := h4 hl0
          refine ⟨?_, pcs ++ [(m.toNat, b)], by rw [List.length_append, g2]; rfl, by rw [flatR_snoc, g3]⟩
          rw [List.length_append, List.length_replicate]
          omega
        rw [List.eq_of_mem_replicate hx]
        exact hbb
      wtm_at "x"
      refine x_andJ (a := decide ((i : Int) = 0)) (b := long && decide (nn / 48 % 3 = 0)) (fun B' k => ?_) (fun _ B' k => ?_) (fun h1 h2 => ?_) (fun h12 => ?_)
      · wtm_at "x"
        exact k
      · refine x_andJ (a := long) (b := decide (nn / 48 % 3 = 0)) (fun B'' k2 => ?_) (fun _ B'' k2 => ?_) (fun g1 g2 => ?_) (fun g12 => ?_)
        · wtm_at "x"
          exact k2
        · wtm_at "x"
          exact k2
        · rw [g1, g2] at k
          exact k
        · rw [g12] at k
          exact k
      · refine iteT ?_
        have hi0 : i = 0 := by
          have := of_decide_eq_true h1
          omega
        wtm_at "x"
        intro p5 hp5
        wtm_at "x"
        refine x_ixI [254, 255, 256, 100] upd_same (by omega) (by show _ < (4 : Int); omega) fun m hm2 => ?_
        have hmm : 0 ≤ m ∧ m ≤ 256 := by
          simp only [List.mem_cons, List.not_mem_nil, or_false] at hm2
          omega
        wtm_at "x"
        intro p3 hp3
        wtm_at "x"
        refine fin m _ hmm.1 hmm.2 (fun z => absurd hi0 z) (fun z => by rw [z] at h2; cases h2) (e2.new hp5) (upd_get (ne_of_none hf2 hp5) hf2) p3 hp3 _ fun r H4 a1 a2 a3 a4 a5 a6 => ?_
        wtm_at "x"
        exact ⟨_, r, _, _, _, _, rfl, a1, a2, a3, a4, a5, a6⟩
      · refine iteF ?_
        wtm_at "x"
        intro p3 hp3
        wtm_at "x"
        refine fin m _ (by omega) (by omega) (fun _ => hmm.2) (fun _ => hmm.2) e2 hf2 p3 hp3 _ fun r H4 a1 a2 a3 a4 a5 a6 => ?_
        wtm_at "x"
        exact ⟨_, r, _, _, _, _, rfl, a1, a2, a3, a4, a5, a6⟩
    · rintro σ H' ⟨row, f, v5, v6, v7, v8, rfl, hf, hfn, e, hby, hlen, hsm⟩
      wtm_at "x"
      exact q row H' f hby ⟨by omega, fun z => (by
        obtain ⟨g1, pcs, g2, g3⟩ := hsm z
        exact ⟨by omega, pcs, by omega, g3⟩)⟩ e hfn hf
end
end Flow

namespace Flow
open PySem PySem.Spec PyProof.Rows L2
theorem all_true (n : Nat) : ((List.range n).map fun (_ : Nat) => V.bl true) = (List.replicate n true).map V.bl := by
  rw [List.map_replicate]
  refine List.ext_getElem? fun i => ?_
  rw [List.getElem?_map]
  by_cases h : i < n
  · rw [List.getElem?_range h, List.getElem?_replicate, if_pos h]
    rfl
  · rw [List.getElem?_eq_none (by rw [List.length_range]; omega), List.getElem?_replicate, if_neg h]
    rfl
theorem rep_all (n : Nat) : (List.replicate n true).all id = true := by
  rw [List.all_eq_true]
  intro x hx
  rw [List.eq_of_mem_replicate hx]
  rfl
theorem raw_inj1 {a b : Lay} (h : rawOf a = rawOf b) : a = b := by
  have h1 : lkind a = lkind b := congrArg Prod.fst h
  have h2 : largs a = largs b := congrArg Prod.snd h
  cases a <;> cases b <;> simp only [lkind, largs] at h1 h2 <;> first
    | rfl
    | (subst h2; rfl)
    | (cases h2; rfl)
    | exact absurd h1 (by decide +kernel)
theorem raw_inj : ∀ {a b : List Lay}, a.map rawOf = b.map rawOf → a = b
  | [], [], _ => rfl
  | [], _ :: _, h => by simp at h
  | _ :: _, [], h => by simp at h
  | x :: a, y :: b, h => by
    rw [List.map_cons, List.map_cons] at h
    injection h with h1 h2
    rw [raw_inj1 h1, raw_inj h2]
theorem kind_at (ly : Lay) : atI (layV ly) 0 = some (.str (lkind ly)) := ix_kind _ _
section
variable {K : PySem.W.Frag}
def spLaw (K : PySem.W.Frag) : Sp := fun vs H Q _ => ∃ (a : Addr) (ns : List Int), vs = [.ref a] ∧ SqL K H a (ns.map V.int) ∧ ∀ H', Q (.bl true) H'
theorem lay_dp {H : Hp} {a : Addr} (ly : Lay) (h : H a = some (.tup (layV ly))) : SqT K H a (.str (layD.lk ly) :: iV (layD.la ly)) := by
  cases ly <;> exact SqT.of h
theorem Made.dp {H0 H : Hp} {a : Addr} {ts : List Addr} {lays : List Lay} (m : Made K H0 H ts lays) (h : SqL K H a (ts.map V.ref)) : Dp K H (.ref a) (laysD lays) :=
  .lst h (dp_lays m.len fun i t ly h1 h2 => lay_dp ly (m.at_ i t ly h1 h2))
end
section
variable {P : Program} {w : World} {K : PySem.W.Frag} {mg : Str → Option Value} {base : Heap}
end
end Flow

namespace Flow
open PySem PySem.Spec PyProof.Rows L2
/-! ### readers as objects -/
def RAt (K : PySem.W.Frag) (H : Hp) (p l : Addr) : RSt → Prop
  | .add key at_ => ∃ dx, H p = some (.ins (He.ga K "AddReader") dx [("key", .ref l), ("at", .int at_)]) ∧ H l = some (.lst (iV key))
  | .front row => ∃ dx, H p = some (.ins (He.ga K "FrontReader") dx [("row", .ref l)]) ∧ H l = some (.lst (iV row))
  | .esc e done marked => ∃ dx, H p = some (.ins (He.ga K "EscapeReader") dx [("marks", .ref l), ("done", .int done), ("marked", .bl marked)]) ∧ H l = some (.lst (iV (marksOf e)))
  | .runs done many lastN lastB => ∃ dx, H p = some (.ins (He.ga K "RunsReader") dx [("done", .int done), ("many", .int many), ("last", .ref l)]) ∧ H l = some (.tup (iV [lastN, lastB]))
  | .chunks size done left isLast => H p = some (.ins (He.ga K "ChunksReader") l [("size", .int size), ("done", .int done), ("left", .int left), ("is_last", .bl isLast)]) ∧ H l = some (.own p)
  | .checks size done check held => ∃ dx, H p = some (.ins (He.ga K "ChecksReader") dx [("size", .int size), ("done", .int done), ("check", .int check), ("held", .ref l)]) ∧ H l = some (.lst (iV held))
  | .signs done many value => H p = some (.ins (He.ga K "SignsReader") l [("done", .int done), ("many", .int many), ("value", .int value)]) ∧ H l = some (.own p)
def RName : RSt → Str
  | .add _ _ => "AddReader"
  | .front _ => "FrontReader"
  | .esc _ _ _ => "EscapeReader"
  | .runs _ _ _ _ => "RunsReader"
  | .chunks _ _ _ _ => "ChunksReader"
  | .checks _ _ _ _ => "ChecksReader"
  | .signs _ _ _ => "SignsReader"
/-- the exception Wrong(place), as it flies -/
def wrongX (K : PySem.W.Frag) (S : List Addr) (H : Hp) (place : Int) (E : XK) : Prop := ∀ (H' : Hp) (d : Addr), Only' S H H' → H d = none → H' d = some (.xd [("place", .int place)]) → E (.ref (He.ga K "Wrong")) (some d) H'
def spRTake (K : PySem.W.Frag) (is : RSt → Prop) : Sp := fun vs H Q E => ∃ (p l : Addr) (st : RSt) (b : Int), vs = [.ref p, .int b] ∧ is st ∧ RAt K H p l st ∧ ROk st ∧ By b ∧
  (∀ (row : Row) (st' : RSt), rtake st b = .ok row st' → ∀ (H' : Hp) (l' r : Addr), RAt K H' p l' st' → (l' = l ∨ H l' = none) → H r = none → H' r = some (.lst (iV row)) → Only' [p, l] H H' → Q (.ref r) H') ∧
  (∀ place, rtake st b = .wrong place → wrongX K [p, l] H place E)
def spREnd (K : PySem.W.Frag) (is : RSt → Prop) : Sp := fun vs H Q E => ∃ (p l : Addr) (st : RSt), vs = [.ref p] ∧ is st ∧ RAt K H p l st ∧ ROk st ∧
  (∀ (row : Row), rend st = .ok row → ∀ (H' : Hp) (r : Addr), H r = none → H' r = some (.lst (iV row)) → Only' [p, l] H H' → Q (.ref r) H') ∧
  (rend st = .cut → ∀ H', Only' [p, l] H H' → E (.ref (He.ga K "Cut")) none H') ∧
  (∀ place, rend st = .wrong place → wrongX K [p, l] H place E)
def spRInit (K : PySem.W.Frag) (C : Addr) (ok : List V → Hp → RSt → Prop) : Sp := fun vs H Q _ => ∃ (p dx : Addr) (a : List V) (st : RSt), vs = .ref p :: a ∧ H p = some (.ins C dx []) ∧ H dx = some (.own p) ∧ ok a H st ∧
  ∀ (H' : Hp) (l : Addr), RAt K H' p l st → (l = dx ∨ H l = none) → Only' [p] H H' → Q .non H'
def isAddR : RSt → Prop | .add _ _ => True | _ => False
def isFrontR : RSt → Prop | .front _ => True | _ => False
def isEscR : RSt → Prop | .esc _ _ _ => True | _ => False
def isRunsR : RSt → Prop | .runs _ _ _ _ => True | _ => False
def isChunksR : RSt → Prop | .chunks _ _ _ _ => True | _ => False
def isChecksR : RSt → Prop | .checks _ _ _ _ => True | _ => False
def isSignsR : RSt → Prop | .signs _ _ _ => True | _ => False
def spWrongInit (K : PySem.W.Frag) : Sp := fun vs H Q _ => ∃ (a : Addr) (i : Int), vs = [.ref a, .int i] ∧ H a = some (exo a (He.ga K "Wrong") none) ∧
  ∀ dx, H dx = none → dx ≠ a → Q .non (upd (upd H dx (exd dx [("place", .int i)])) a (exo a (He.ga K "Wrong") (some dx)))
/-- a raise of Wrong(i), read -/
theorem x_wrong {K : PySem.W.Frag} {σ : L2.St} {H : Hp} {ta : TA} {i : Int} {Q : XK} (ha : ∀ R : List V → Hp → Prop, R [.int i] H → ta σ H R) (q : ∀ (H' : Hp) (d : Addr), Only' [] H H' → H d = none → H' d = some (.xd [("place", .int i)]) → Q (.ref (He.ga K "Wrong")) (some d) H') :
    tMkO (He.ga K "Wrong") (spWrongInit K) [] ta σ H Q := by
  refine ha _ ⟨by simp, fun a na => ⟨a, i, rfl, upd_same, fun dx hdx ne => ⟨rfl, dx, [("place", .int i)], upd_same, by rw [upd_ne ne, upd_same], ?_, ?_⟩⟩⟩
  · exact (upd_none hdx).2
  · have hdx0 := (upd_none hdx).2
    refine q _ dx ⟨fun b o hb _ => ?_, fun b o hb => ?_⟩ hdx0 upd_same
    · have n1 := ne_of_none hb na
      have n2 := ne_of_none hb hdx0
      rw [upd_ne n2, del_ne n1, upd_ne n1, upd_ne n2, upd_ne n1]
      exact hb
    · have n1 := ne_of_none hb na
      have n2 := ne_of_none hb hdx0
      refine ⟨o, ?_⟩
      rw [upd_ne n2, del_ne n1, upd_ne n1, upd_ne n2, upd_ne n1]
      exact hb
section
variable {P : Program} {w : World} {K : PySem.W.Frag} {mg : Str → Option Value} {base : Heap}
theorem ok_Wrong_init (T : Tx K mg) : ∃ fd, FnOk P w K mg base (L2.CX P w) 1 (He.ma K (He.ga K "Wrong") "__init__") fd ["self", "place"] (spWrongInit K) ∧ Binds K fd ["self", "place"] [] := by
  obtain ⟨fd, F⟩ := fn_Wrong_init T
  refine ⟨fd, law_ok (N := n_Wrong_init) F sc_Wrong_init (fun vs H Q E h => ?_) (fun cdv A outer s H vs Q E hr h => ?_), F.bindsN fun _ _ _ _ _ _ us hl => match us, hl with | [_, _], _ => rfl⟩
  · obtain ⟨a, i, rfl, _⟩ := h
    rfl
  · obtain ⟨a, i, rfl, ha, q⟩ := h
    refine ⟨_, [_, _], pss_one (ps_ost (pv 0) (pv 1)), rfl, ?_⟩
    try dsimp only [cxOf]
    refine ⟨_, rfl, _, rfl, a, _, rfl, oex_Wrong T, no_Wrong_place T, Or.inl ⟨ha, fun dx h1 h2 => q dx h1 h2⟩⟩
/-! ### AddReader -/
theorem ok_AddReader_turned (T : Tx K mg) : DefOk P w K mg base 1 (He.ma K (He.ga K "AddReader") "turned") ["self", "byte"] (spTurned K (He.ga K "AddReader") fun b k => (b - k) % 256) := by
  refine def_ok (N := n_AddReader_turned) (fn_AddReader_turned T) sc_AddReader_turned (fun _ _ _ _ _ _ us hl => match us, hl with | [_, _], _ => rfl) (fun vs H Q E h => ?_) (fun cdv A outer s H vs Q E hr h => ?_)
  · obtain ⟨p, l, dx, key, at_, b, rfl, _⟩ := h
    rfl
  · obtain ⟨p, l, dx, key, at_, b, rfl, hp, hl, h0, h1, q⟩ := h
    refine ⟨_, [_, _], (pss_one (ps_ret (pe_op op_mod (pe_op op_sub (pv 1) (pe_ix ix_list (pe_fld (pv 0) rfl) (pe_fld (pv 0) rfl) (fun _ _ => rfl))) pe_int))), rfl, ?_⟩
    try dsimp only [cxOf]
    wtm_at "x"
    refine x_ixL (SqL.of hl) (gI_at h0 h1) ?_
    wtm_at "x"
    exact q
theorem ok_AddReader_init (T : Tx K mg) : DefOk P w K mg base 1 (He.ma K (He.ga K "AddReader") "__init__") ["self", "key"] (spRInit K (He.ga K "AddReader") fun a H st => ∃ t key, a = [.ref t] ∧ st = .add key 0 ∧ SqT K H t (iV key)) := by
  refine def_ok (N := n_AddWriter_init) (fn_AddReader_init T) sc_AddWriter_init (fun _ _ _ _ _ _ us hl => match us, hl with | [_, _], _ => rfl) (fun vs H Q E h => ?_) (fun cdv A outer s H vs Q E hr h => ?_)
  · obtain ⟨p, dx, a, st, rfl, _, _, ⟨t, key, rfl, _⟩, _⟩ := h
    rfl
  · obtain ⟨p, dx, a, st, rfl, hp, hd, ⟨t, key, rfl, rfl, ht⟩, q⟩ := h
    refine ⟨_, [_, _], (pss_cons (ps_fld (pv 0) (pe_callTy call_listS rfl (f_list T) (by decide +kernel) (pa_cons (pv 1) pa_nil)) rfl)
      (pss_one (ps_fld (pv 0) pe_int rfl))), rfl, ?_⟩
    try dsimp only [cxOf]
    wtm_at "x"
    intro l hl
    wtm_at "x"
    exact q _ l ⟨dx, by wtm_at "h", by wtm_at "h"⟩ (Or.inr hl) (by wtm_at "only")
theorem ok_AddReader_take (T : Tx K mg) : DefOk P w K mg base 2 (He.ma K (He.ga K "AddReader") "take") ["self", "byte"] (spRTake K isAddR) := by
  have M_AddReader_turned := meth1 (cl_AddReader T) (me_AddReader_turned T) (ok_AddReader_turned (P := P) (w := w) (base := base) T)
  refine def_ok (N := n_AddWriter_take) (fn_AddReader_take T) sc_AddWriter_take (fun _ _ _ _ _ _ us hl => match us, hl with | [_, _], _ => rfl) (fun vs H Q E h => ?_) (fun cdv A outer s H vs Q E hr h => ?_)
  · obtain ⟨p, l, st, b, rfl, _⟩ := h
    rfl
  · obtain ⟨p, l, st, b, rfl, hst, hw, hk, hb, q, qw⟩ := h
    clear qw
    cases st <;> simp only [isAddR] at hst
    rename_i key at_
    obtain ⟨dx, hp, hl⟩ := hw
    obtain ⟨k1, k2, k3, k4, k5⟩ := hk
    refine ⟨_, [_, _, _], (pss_cons (ps_set (i := 2) sc_AddWriter_take.nd rfl (Or.inl rfl) (pe_mm M_AddReader_turned (hr.mono (by first | decide | omega)) (fun _ => passE) (pv 0) (pa_cons (pv 1) pa_nil)))
      (pss_cons (ps_fld (pv 0) (pe_op op_modN (pe_op op_add (pe_fld (pv 0) rfl) pe_int) (pe_callB call_lenS rfl (f_len T) (by decide +kernel) (pa_cons (pe_fld (pv 0) rfl) pa_nil))) rfl)
      (pss_one (ps_ret (pe_lst (pa_cons (pv 2) pa_nil)))))), rfl, ?_⟩
    try dsimp only [cxOf]
    wtm_at "x"
    refine ⟨p, l, dx, key, at_, b, rfl, hp, hl, k4, k5, ?_⟩
    wtm_at "x"
    intro r hr
    obtain ⟨r1, hr⟩ := upd_none hr
    refine q _ _ rfl _ l r ⟨dx, ?_, by wtm_at "h"⟩ (Or.inl rfl) hr upd_same (by wtm_at "only")
    have e : (at_ + 1).fmod ((iV key).length : Int) = (at_ + 1) % (key.length : Int) := by rw [iV_length, fmod_pos (by omega)]
    rw [← e]
    wtm_at "h"
theorem ok_AddReader_end (T : Tx K mg) : DefOk P w K mg base 1 (He.ma K (He.ga K "AddReader") "end") ["self"] (spREnd K isAddR) := by
  refine def_ok (N := n_AddWriter_end) (fn_AddReader_end T) sc_AddWriter_end (fun _ _ _ _ _ _ us hl => match us, hl with | [_], _ => rfl) (fun vs H Q E h => ?_) (fun cdv A outer s H vs Q E hr h => ?_)
  · obtain ⟨p, l, st, rfl, _⟩ := h
    rfl
  · obtain ⟨p, l, st, rfl, hst, hw, hk, q, qw⟩ := h
    clear qw
    cases st <;> simp only [isAddR] at hst
    refine ⟨_, [_], (pss_one (ps_ret (pe_lst pa_nil))), rfl, ?_⟩
    try dsimp only [cxOf]
    wtm_at "x"
    intro r hr
    exact q _ rfl _ r hr upd_same (by wtm_at "only")
/-! ### FrontReader -/
theorem ok_FrontReader_init (T : Tx K mg) : DefOk P w K mg base 1 (He.ma K (He.ga K "FrontReader") "__init__") ["self"] (spRInit K (He.ga K "FrontReader") fun a H st => a = [] ∧ st = .front range256) := by
  refine def_ok (N := n_FrontWriter_init) (fn_FrontReader_init T) sc_FrontWriter_init (fun _ _ _ _ _ _ us hl => match us, hl with | [_], _ => rfl) (fun vs H Q E h => ?_) (fun cdv A outer s H vs Q E hr h => ?_)
  · obtain ⟨p, dx, a, st, rfl, _, _, ⟨rfl, _⟩, _⟩ := h
    rfl
  · obtain ⟨p, dx, a, st, rfl, hp, hd, ⟨rfl, rfl⟩, q⟩ := h
    refine ⟨_, [_], (pss_one (ps_fld (pv 0) (pe_listRg rfl rfl (f_list T) (prg_1 rfl (f_range T) pe_int)) rfl)), rfl, ?_⟩
    try dsimp only [cxOf]
    wtm_at "x"
    refine ⟨RgOk.of_le (by decide) (by decide) (by decide) (by decide), fun l hl => ?_⟩
    rw [rgV256]
    wtm_at "x"
    exact q _ l ⟨dx, by wtm_at "h", by wtm_at "h"⟩ (Or.inr hl) (by wtm_at "only")
theorem ok_FrontReader_to_front (T : Tx K mg) : DefOk P w K mg base 1 (He.ma K (He.ga K "FrontReader") "to_front") ["self", "place"] (spToFront K (He.ga K "FrontReader")) := by
  refine def_ok (N := n_FrontWriter_to_front) (fn_FrontReader_to_front T) sc_FrontWriter_to_front (fun _ _ _ _ _ _ us hl => match us, hl with | [_, _], _ => rfl) (fun vs H Q E h => ?_) (fun cdv A outer s H vs Q E hr h => ?_)
  · obtain ⟨p, l, dx, row, i, rfl, _⟩ := h
    rfl
  · obtain ⟨p, l, dx, row, i, rfl, hp, hl, h0, h1, h2, q⟩ := h
    have hpl : p ≠ l := ne_of hp hl (by intro z; cases z)
    refine ⟨_, [_, _, _], (pss_cons (ps_set (i := 2) sc_FrontWriter_to_front.nd rfl (Or.inl rfl) (pe_bm PySem.F.plainAttrs_list PySem.F.slot_list_pop PySem.F.type_list_pop mt_popAt (pe_fld (pv 0) rfl) (pa_cons (pv 1) pa_nil)))
      (pss_cons (ps_expr (pe_bm PySem.F.plainAttrs_list PySem.F.slot_list_insert PySem.F.type_list_insert mt_insertS (pe_fld (pv 0) rfl) (pa_cons pe_int (pa_cons (pv 2) pa_nil))))
      (pss_one (ps_ret (pv 2))))), rfl, ?_⟩
    try dsimp only [cxOf]
    wtm_at "x"
    refine x_popAt hl h0 h1 (by omega) ?_
    wtm_at "x"
    refine x_insert0 upd_same (by rw [iV_length, List.length_eraseIdx, sizeLine_eq]; split <;> omega) ?_
    wtm_at "x"
    refine q _ ?_ (by wtm_at "only")
    rw [upd_same]
    rfl
theorem ok_FrontReader_take (T : Tx K mg) : DefOk P w K mg base 2 (He.ma K (He.ga K "FrontReader") "take") ["self", "byte"] (spRTake K isFrontR) := by
  have M_FrontReader_to_front := meth1 (cl_FrontReader T) (me_FrontReader_to_front T) (ok_FrontReader_to_front (P := P) (w := w) (base := base) T)
  refine def_ok (N := n_FrontReader_take) (fn_FrontReader_take T) sc_FrontReader_take (fun _ _ _ _ _ _ us hl => match us, hl with | [_, _], _ => rfl) (fun vs H Q E h => ?_) (fun cdv A outer s H vs Q E hr h => ?_)
  · obtain ⟨p, l, st, b, rfl, _⟩ := h
    rfl
  · obtain ⟨p, l, st, b, rfl, hst, hw, hk, hb, q, qw⟩ := h
    clear qw
    cases st <;> simp only [isFrontR] at hst
    rename_i row
    obtain ⟨dx, hp, hl⟩ := hw
    obtain ⟨k1, k2⟩ := hk
    obtain ⟨b0, b1⟩ := hb
    have hpl : p ≠ l := ne_of hp hl (by intro z; cases z)
    refine ⟨_, [_, _], (pss_one (ps_ret (pe_lst (pa_cons (pe_mm M_FrontReader_to_front (hr.mono (by first | decide | omega)) (fun _ => passE) (pv 0) (pa_cons (pv 1) pa_nil)) pa_nil)))), rfl, ?_⟩
    try dsimp only [cxOf]
    wtm_at "x"
    refine ⟨p, l, dx, row, b, rfl, hp, hl, b0, by omega, k1, fun H' h' o' => ?_⟩
    wtm_at "x"
    intro r hr
    have hp' := o' p _ hp (by simpa using hpl)
    have hr0 : H r = none := o'.free hr
    refine q _ _ rfl _ l r ⟨dx, by wtm_at "h", by wtm_at "h"⟩ (Or.inl rfl) hr0 upd_same ?_
    exact Only'.put0 (o'.mono (by simp)) hr0
theorem ok_FrontReader_end (T : Tx K mg) : DefOk P w K mg base 1 (He.ma K (He.ga K "FrontReader") "end") ["self"] (spREnd K isFrontR) := by
  refine def_ok (N := n_FrontWriter_end) (fn_FrontReader_end T) sc_FrontWriter_end (fun _ _ _ _ _ _ us hl => match us, hl with | [_], _ => rfl) (fun vs H Q E h => ?_) (fun cdv A outer s H vs Q E hr h => ?_)
  · obtain ⟨p, l, st, rfl, _⟩ := h
    rfl
  · obtain ⟨p, l, st, rfl, hst, hw, hk, q, qw⟩ := h
    clear qw
    cases st <;> simp only [isFrontR] at hst
    refine ⟨_, [_], (pss_one (ps_ret (pe_lst pa_nil))), rfl, ?_⟩
    try dsimp only [cxOf]
    wtm_at "x"
    intro r hr
    exact q _ rfl _ r hr upd_same (by wtm_at "only")
end
end Flow

namespace Flow
open PySem PySem.Spec PyProof.Rows L2
theorem wrong_go {K : PySem.W.Frag} {S S' : List Addr} {H H1 : Hp} {place : Int} {E : XK} (h : wrongX K S H place E) (o : Only' S H H1) (hs : ∀ a, a ∈ S' → a ∈ S) : wrongX K S' H1 place E := fun H' d o2 hd hx => h H' d (o.trans (o2.mono hs)) (o.free hd) hx
section
variable {P : Program} {w : World} {K : PySem.W.Frag} {mg : Str → Option Value} {base : Heap}
/-! ### EscapeReader -/
theorem ok_EscapeReader_init (T : Tx K mg) : DefOk P w K mg base 1 (He.ma K (He.ga K "EscapeReader") "__init__") ["self", "byte"] (spRInit K (He.ga K "EscapeReader") fun a H st => ∃ e, a = [.int e] ∧ st = .esc e 0 false) := by
  refine def_ok (N := n_EscapeReader_init) (fn_EscapeReader_init T) sc_EscapeReader_init (fun _ _ _ _ _ _ us hl => match us, hl with | [_, _], _ => rfl) (fun vs H Q E h => ?_) (fun cdv A outer s H vs Q E hr h => ?_)
  · obtain ⟨p, dx, a, st, rfl, _, _, ⟨e, rfl, _⟩, _⟩ := h
    rfl
  · obtain ⟨p, dx, a, st, rfl, hp, hd, ⟨e, rfl, rfl⟩, q⟩ := h
    refine ⟨_, [_, _, _], (pss_cons (ps_fld (pv 0) (pe_lc (own := [("k", 2)]) (g := gName 2) (tt := tYes) rfl sc_EscapeReader_init.nd (pi_range1 rfl (f_range T) (pa_cons pe_int pa_nil)) (blkOk_by (own := [("k", 2)]) (N := n_EscapeReader_init) (sc := defScope s_EscapeReader_init) (by decide +kernel)) (fun _ _ _ _ _ => pg_name (i := 2) sc_EscapeReader_init.nd rfl (Or.inl rfl)) (fun _ _ _ _ _ => pts_nil) (fun _ _ _ _ _ => (pe_op op_mod (pe_op op_add (pv 1) (pv 2)) pe_int))) rfl)
      (pss_cons (ps_fld (pv 0) pe_int rfl)
      (pss_one (ps_fld (pv 0) pe_bl rfl)))), rfl, ?_⟩
    try dsimp only [cxOf]
    wtm_at "x"
    refine x_rLcR (k := 4) (fun i => V.int ((e + (i : Int)) % 256)) rfl (by decide) (fun _ => rfl) (fun i H1 hi e1 Q' k => ?_) fun l H1 hl e1 h1 => ?_
    · wtm_at "x"
      exact k _ Only'.refl
    · rw [marks_eq] at h1
      wtm_at "x"
      have hp1 := e1 p _ hp (by simp)
      have hpl : p ≠ l := ne_of_none hp hl
      wtm_at "x"
      exact q _ l ⟨dx, by wtm_at "h", by wtm_at "h"⟩ (Or.inr hl) ((((e1.mono (by simp)).put (by simp)).put (by simp)).put (by simp))
theorem ok_EscapeReader_take (T : Tx K mg) : DefOk P w K mg base 3 (He.ma K (He.ga K "EscapeReader") "take") ["self", "byte"] (spRTake K isEscR) := by
  obtain ⟨fdW, DW⟩ := ok_Wrong_init (P := P) (w := w) (base := base) T
  refine def_ok (N := n_EscapeReader_take) (fn_EscapeReader_take T) sc_EscapeReader_take (fun _ _ _ _ _ _ us hl => match us, hl with | [_, _], _ => rfl) (fun vs H Q E h => ?_) (fun cdv A outer s H vs Q E hr h => ?_)
  · obtain ⟨p, l, st, b, rfl, _⟩ := h
    rfl
  · obtain ⟨p, l, st, b, rfl, hst, hw, hk, hb, q, qw⟩ := h
    cases st <;> simp only [isEscR] at hst
    rename_i e done marked
    obtain ⟨dx, hp, hl⟩ := hw
    obtain ⟨he0, he1⟩ := id hk
    obtain ⟨hb0, hb1⟩ := hb
    have hpl : p ≠ l := ne_of hp hl (by intro z; cases z)
    refine ⟨_, [_, _, _], (pss_cons (ps_set (i := 2) sc_EscapeReader_take.nd rfl (Or.inl rfl) (pe_fld (pv 0) rfl))
      (pss_cons (ps_fld (pv 0) (pe_op op_add (pv 2) pe_int) rfl)
      (pss_cons (ps_if (pt_val (pe_fld (pv 0) rfl)) (pss_cons (ps_fld (pv 0) pe_bl rfl)
      (pss_cons (ps_if (pt_cmpR op_notIn_seq (pv 1) (pe_slice sl_list (pe_fld (pv 0) rfl) (po_some pe_int) po_none) (by rfl)) (pss_one (ps_raise rfl (takes_of rfl rfl rfl rfl) (pmk_oex (oex_Wrong T) (me_Wrong_init T).at_ (fnT (me_Wrong_init T)) DW.1 (hr.mono (by first | decide | omega)) DW.2 .nil passL rfl (g_Wrong T) (pa_cons (pv 2) pa_nil)))) pss_nil)
      (pss_one (ps_ret (pe_lst (pa_cons (pe_ix ix_list (pe_fld (pv 0) rfl) (pe_op op_sub (pe_bm PySem.F.plainAttrs_list PySem.F.slot_list_index PySem.F.type_list_index mt_index (pe_fld (pv 0) rfl) (pa_cons (pv 1) pa_nil)) pe_int) (fun _ _ => rfl)) pa_nil)))))) pss_nil)
      (pss_cons (ps_if (pt_cmpR op_eq (pv 1) (pe_ix ix_list (pe_fld (pv 0) rfl) pe_int (fun _ _ => rfl)) (nomark _)) (pss_one (ps_raise rfl (takes_of rfl rfl rfl rfl) (pmk_oex (oex_Wrong T) (me_Wrong_init T).at_ (fnT (me_Wrong_init T)) DW.1 (hr.mono (by first | decide | omega)) DW.2 .nil passL rfl (g_Wrong T) (pa_cons (pv 2) pa_nil)))) pss_nil)
      (pss_cons (ps_if (pt_cmpR op_eq (pv 1) (pe_ix ix_list (pe_fld (pv 0) rfl) pe_int (fun _ _ => rfl)) (nomark _)) (pss_cons (ps_fld (pv 0) pe_bl rfl)
      (pss_one (ps_ret (pe_lst pa_nil)))) pss_nil)
      (pss_one (ps_ret (pe_lst (pa_cons (pv 1) pa_nil))))))))), rfl, ?_⟩
    try dsimp only [cxOf]
    wtm_at "x"
    cases marked with
    | true =>
      refine iteT ?_
      wtm_at "x"
      intro s1 hs1
      obtain ⟨_, hs1⟩ := upd_none hs1
      obtain ⟨n1, hs10⟩ := upd_none hs1
      have n2 : s1 ≠ l := (ne_of_none hl hs10).symm
      have e1 : cutV (iV (marksOf e)) (some 2) none = iV ((marksOf e).drop 2) := cut_from (k := 2) rfl
      rw [e1]
      refine x_ninI (Or.inl (SqL.of upd_same)) ?_
      wtm_at "x"
      refine ite_nd (fun hc => ?_) fun hc => ?_
      · have hc2 : ¬ (b = (e + 2) % 256 ∨ b = (e + 3) % 256) := by simpa [marksOf] using hc
        refine x_wrong (fun R k => by wtm_at "x"; exact k) ?_
        refine wrong_go (qw done ?_) (by wtm_at "only") (by simp)
        have z1 : ¬ b = (e + 2) % 256 := fun z => hc2 (Or.inl z)
        have z2 : ¬ b = (e + 3) % 256 := fun z => hc2 (Or.inr z)
        simp only [rtake, ↓reduceIte, z1, z2]
      · have hc2 : b = (e + 2) % 256 ∨ b = (e + 3) % 256 := by simpa [marksOf] using hc
        have hm : b ∈ marksOf e := List.mem_of_mem_drop hc
        wtm_at "x"
        refine x_index (SqL.of (by wtm_at "h")) hm ?_
        wtm_at "x"
        have hx : (marksOf e).idxOf b = (if b = (e + 2) % 256 then 2 else 3) := by
          unfold marksOf
          rw [List.idxOf_cons, List.idxOf_cons, List.idxOf_cons, List.idxOf_cons]
          have b1 : (e % 256 == b) = false := by rw [beq_eq_false_iff_ne]; omega
          have b2 : ((e + 1) % 256 == b) = false := by rw [beq_eq_false_iff_ne]; omega
          rw [b1, b2]
          rcases hc2 with h | h
          · have b3 : ((e + 2) % 256 == b) = true := by rw [beq_iff_eq]; omega
            rw [b3, if_pos h]
            rfl
          · have b3 : ((e + 2) % 256 == b) = false := by rw [beq_eq_false_iff_ne]; omega
            have b4 : ((e + 3) % 256 == b) = true := by rw [beq_iff_eq]; omega
            rw [b3, b4, if_neg (by omega)]
            rfl
        rw [hx]
        have hi2 : (((if b = (e + 2) % 256 then 2 else 3 : Nat) : Int) - 2) = (if b = (e + 2) % 256 then 0 else 1) := by split <;> rfl
        rw [hi2]
        refine x_ixL (SqL.of (by wtm_at "h")) (gI_at (by split <;> decide) (by rw [marks_len]; split <;> decide)) ?_
        wtm_at "x"
        intro r hr
        obtain ⟨_, hr⟩ := upd_none hr
        obtain ⟨_, hr⟩ := upd_none hr
        obtain ⟨_, hr0⟩ := upd_none hr
        refine q [gI (marksOf e) (if b = (e + 2) % 256 then 0 else 1)] (.esc e (done + 1) false) ?_ _ l r ⟨dx, by wtm_at "h", by wtm_at "h"⟩ (Or.inl rfl) hr0 upd_same (by wtm_at "only")
        by_cases h2 : b = (e + 2) % 256
        · simp only [rtake, ↓reduceIte, ← h2]
          rfl
        · have h3 := hc2.resolve_left h2
          simp only [rtake, ↓reduceIte, h2]
          rw [if_pos h3]
          rfl
    | false =>
      refine iteF ?_
      wtm_at "x"
      refine x_ixL (SqL.of (by wtm_at "h")) (gI_at (by decide) (by rw [marks_len]; decide)) ?_
      wtm_at "x"
      have g0 : gI (marksOf e) 0 = e % 256 := rfl
      have g1 : gI (marksOf e) 1 = (e + 1) % 256 := rfl
      rw [g0]
      refine ite_d (fun hc => ?_) fun hc => ?_
      · refine x_wrong (fun R k => by wtm_at "x"; exact k) ?_
        refine wrong_go (qw done ?_) (by wtm_at "only") (by simp)
        simp only [rtake, Bool.false_eq_true, ↓reduceIte]
        rw [if_pos hc]
      · wtm_at "x"
        refine x_ixL (SqL.of (by wtm_at "h")) (gI_at (by decide) (by rw [marks_len]; decide)) ?_
        wtm_at "x"
        rw [g1]
        refine ite_d (fun hc2 => ?_) fun hc2 => ?_
        · wtm_at "x"
          intro r hr
          obtain ⟨_, hr⟩ := upd_none hr
          obtain ⟨_, hr0⟩ := upd_none hr
          refine q [] (.esc e (done + 1) true) ?_ _ l r ⟨dx, by wtm_at "h", by wtm_at "h"⟩ (Or.inl rfl) hr0 upd_same (by wtm_at "only")
          simp only [rtake, Bool.false_eq_true, ↓reduceIte]
          rw [if_neg hc, if_pos hc2]
        · wtm_at "x"
          intro r hr
          obtain ⟨_, hr0⟩ := upd_none hr
          refine q [b] (.esc e (done + 1) false) ?_ _ l r ⟨dx, by wtm_at "h", by wtm_at "h"⟩ (Or.inl rfl) hr0 upd_same (by wtm_at "only")
          simp only [rtake, Bool.false_eq_true, ↓reduceIte]
          rw [if_neg hc, if_neg hc2]
theorem ok_EscapeReader_end (T : Tx K mg) : DefOk P w K mg base 1 (He.ma K (He.ga K "EscapeReader") "end") ["self"] (spREnd K isEscR) := by
  refine def_ok (N := n_EscapeReader_end) (fn_EscapeReader_end T) sc_EscapeReader_end (fun _ _ _ _ _ _ us hl => match us, hl with | [_], _ => rfl) (fun vs H Q E h => ?_) (fun cdv A outer s H vs Q E hr h => ?_)
  · obtain ⟨p, l, st, rfl, _⟩ := h
    rfl
  · obtain ⟨p, l, st, rfl, hst, hw, hk, q, qc, qw⟩ := h
    clear qw
    cases st <;> simp only [isEscR] at hst
    rename_i e done marked
    obtain ⟨dx, hp, hl⟩ := hw
    refine ⟨_, [_], (pss_cons (ps_if (pt_val (pe_fld (pv 0) rfl)) (pss_one (ps_raise rfl (takes_of rfl rfl rfl rfl) (pmk_own PySem.F.excBase_ValueError (xc_Cut T).1 (g_Cut T) (xc_Cut T).2.1 (raises_own (xc_Cut T).2.2.1 (xc_Cut T).2.2.2) rfl))) pss_nil)
      (pss_one (ps_ret (pe_lst pa_nil)))), rfl, ?_⟩
    try dsimp only [cxOf]
    wtm_at "x"
    cases marked with
    | true =>
      refine iteT ?_
      exact qc rfl _ Only'.refl
    | false =>
      refine iteF ?_
      wtm_at "x"
      intro r hr
      exact q _ rfl _ r hr upd_same (by wtm_at "only")
/-! ### RunsReader -/
theorem ok_RunsReader_init (T : Tx K mg) : DefOk P w K mg base 1 (He.ma K (He.ga K "RunsReader") "__init__") ["self"] (spRInit K (He.ga K "RunsReader") fun a H st => a = [] ∧ st = .runs 0 0 0 0) := by
  refine def_ok (N := n_RunsReader_init) (fn_RunsReader_init T) sc_RunsReader_init (fun _ _ _ _ _ _ us hl => match us, hl with | [_], _ => rfl) (fun vs H Q E h => ?_) (fun cdv A outer s H vs Q E hr h => ?_)
  · obtain ⟨p, dx, a, st, rfl, _, _, ⟨rfl, _⟩, _⟩ := h
    rfl
  · obtain ⟨p, dx, a, st, rfl, hp, hd, ⟨rfl, rfl⟩, q⟩ := h
    refine ⟨_, [_], (pss_cons (ps_fld (pv 0) pe_int rfl)
      (pss_cons (ps_fld (pv 0) pe_int rfl)
      (pss_one (ps_fld (pv 0) (pe_tup (pa_cons pe_int (pa_cons pe_int pa_nil))) rfl)))), rfl, ?_⟩
    try dsimp only [cxOf]
    wtm_at "x"
    intro l hl
    obtain ⟨n1, hl⟩ := upd_none hl
    obtain ⟨n2, hl0⟩ := upd_none hl
    wtm_at "x"
    exact q _ l ⟨dx, by wtm_at "h", (show _ = some (HO.tup [V.int 0, V.int 0]) by wtm_at "h")⟩ (Or.inr hl0) (by wtm_at "only")
theorem ok_RunsReader_take (T : Tx K mg) : DefOk P w K mg base 3 (He.ma K (He.ga K "RunsReader") "take") ["self", "byte"] (spRTake K isRunsR) := by
  obtain ⟨fdW, DW⟩ := ok_Wrong_init (P := P) (w := w) (base := base) T
  refine def_ok (N := n_RunsReader_take) (fn_RunsReader_take T) sc_RunsReader_take (fun _ _ _ _ _ _ us hl => match us, hl with | [_, _], _ => rfl) (fun vs H Q E h => ?_) (fun cdv A outer s H vs Q E hr h => ?_)
  · obtain ⟨p, l, st, b, rfl, _⟩ := h
    rfl
  · obtain ⟨p, l, st, b, rfl, hst, hw, hk, hb, q, qw⟩ := h
    cases st <;> simp only [isRunsR] at hst
    rename_i done many lastN lastB
    obtain ⟨dx, hp, hl⟩ := hw
    obtain ⟨⟨m0, m1⟩, _, _⟩ := hk
    obtain ⟨hb0, hb1⟩ := hb
    have hpl : p ≠ l := ne_of hp hl (by intro z; cases z)
    refine ⟨_, [_, _, _], (pss_cons (ps_set (i := 2) sc_RunsReader_take.nd rfl (Or.inl rfl) (pe_fld (pv 0) rfl))
      (pss_cons (ps_fld (pv 0) (pe_op op_add (pv 2) pe_int) rfl)
      (pss_cons (ps_if (pt_cmpR op_eq (pe_fld (pv 0) rfl) pe_int (nomark _)) (pss_cons (ps_if (pt_cmpR op_eq (pv 1) pe_int (nomark _)) (pss_one (ps_raise rfl (takes_of rfl rfl rfl rfl) (pmk_oex (oex_Wrong T) (me_Wrong_init T).at_ (fnT (me_Wrong_init T)) DW.1 (hr.mono (by first | decide | omega)) DW.2 .nil passL rfl (g_Wrong T) (pa_cons (pv 2) pa_nil)))) pss_nil)
      (pss_cons (ps_fld (pv 0) (pv 1) rfl)
      (pss_one (ps_ret (pe_lst pa_nil))))) pss_nil)
      (pss_cons (ps_if (PW.pt (pw_and (pt_cmpR op_eq (pv 1) (pe_ix ix_tup (pe_fld (pv 0) rfl) pe_int (fun _ _ => rfl)) (nomark _)) (pw_and1 (pt_chain op_lt op_lt pe_int (pe_ix ix_tup (pe_fld (pv 0) rfl) pe_int (fun _ _ => rfl)) (pe_ci (c_LONGEST T)))))) (pss_one (ps_raise rfl (takes_of rfl rfl rfl rfl) (pmk_oex (oex_Wrong T) (me_Wrong_init T).at_ (fnT (me_Wrong_init T)) DW.1 (hr.mono (by first | decide | omega)) DW.2 .nil passL rfl (g_Wrong T) (pa_cons (pv 2) pa_nil)))) pss_nil)
      (pss_cons (ps_fld (pv 0) (pe_tup (pa_cons (pe_fld (pv 0) rfl) (pa_cons (pv 1) pa_nil))) rfl)
      (pss_cons (ps_fld (pv 0) pe_int rfl)
      (pss_one (ps_ret (pe_op op_rep (pe_lst (pa_cons (pv 1) pa_nil)) (pe_ix ix_tup (pe_fld (pv 0) rfl) pe_int (fun _ _ => rfl))))))))))), rfl, ?_⟩
    try dsimp only [cxOf]
    wtm_at "x"
    refine ite_d (fun hc => ?_) fun hc => ?_
    · wtm_at "x"
      refine ite_d (fun hc2 => ?_) fun hc2 => ?_
      · refine x_wrong (fun R k => by wtm_at "x"; exact k) ?_
        refine wrong_go (qw done ?_) (by wtm_at "only") (by simp)
        simp only [rtake]
        rw [if_pos hc, if_pos hc2]
      · wtm_at "x"
        intro r hr
        obtain ⟨_, hr⟩ := upd_none hr
        obtain ⟨_, hr0⟩ := upd_none hr
        refine q [] (.runs (done + 1) b lastN lastB) ?_ _ l r ⟨dx, by wtm_at "h", by wtm_at "h"⟩ (Or.inl rfl) hr0 upd_same (by wtm_at "only")
        simp only [rtake]
        rw [if_pos hc, if_neg hc2]
    · wtm_at "x"
      have hl1 : ∀ o, (upd H p o) l = some (.tup (iV [lastN, lastB])) := fun o => upd_get hpl.symm hl
      refine x_andJ (a := decide (b = lastB)) (b := decide (0 < lastN) && decide (lastN < 255)) (fun B' k => ?_) (fun _ B' k => ?_) (fun h1 h2 => ?_) (fun h12 => ?_)
      · wtm_at "x"
        refine x_ixT (SqT.of (hl1 _)) (at_of (j := 1) rfl rfl) ?_
        wtm_at "x"
        exact k
      · wtm_at "x"
        refine x_ixT (SqT.of (hl1 _)) (at_of (j := 0) rfl rfl) ?_
        wtm_at "x"
        refine ite_d (fun z1 => ?_) fun z1 => ?_
        · wtm_at "x"
          rw [decide_eq_true z1, Bool.true_and] at k
          exact k
        · rw [decide_eq_false z1, Bool.false_and] at k
          wtm_at "x"
          exact k
      · refine iteT ?_
        refine x_wrong (fun R k => by wtm_at "x"; exact k) ?_
        refine wrong_go (qw done ?_) (by wtm_at "only") (by simp)
        simp only [rtake]
        rw [Bool.and_eq_true] at h2
        rw [if_neg hc, if_pos ⟨of_decide_eq_true h1, of_decide_eq_true h2.1, of_decide_eq_true h2.2⟩]
      · refine iteF ?_
        wtm_at "x"
        intro l' hl'
        obtain ⟨n1, hl'0⟩ := upd_none hl'
        wtm_at "x"
        intro s1 hs1
        have hs1' := hs1
        obtain ⟨_, hs1⟩ := upd_none hs1
        obtain ⟨_, hs1⟩ := upd_none hs1
        obtain ⟨n2, hs1⟩ := upd_none hs1
        obtain ⟨n3, hs10⟩ := upd_none hs1
        wtm_at "x"
        refine x_ixT (SqT.of (upd_get (Ne.symm n2) (upd_get n1 (upd_get n1 upd_same)))) (at_of (j := 0) rfl rfl) ?_
        refine x_rep1 upd_same m0 (by omega) fun r hr => ?_
        obtain ⟨n4, hr⟩ := upd_none hr
        obtain ⟨_, hr⟩ := upd_none hr
        obtain ⟨_, hr⟩ := upd_none hr
        obtain ⟨n5, hr⟩ := upd_none hr
        obtain ⟨n6, hr0⟩ := upd_none hr
        refine q (List.replicate many.toNat b) (.runs (done + 1) 0 many b) ?_ _ l' r ⟨dx, by wtm_at "h", upd_get (Ne.symm n5) (upd_get (Ne.symm n2) (upd_get n1 (upd_get n1 upd_same)))⟩ (Or.inr hl'0) hr0 ?_ (by wtm_at "only")
        · simp only [rtake]
          rw [if_neg hc, if_neg ?_]
          rintro ⟨z1, z2, z3⟩
          rw [decide_eq_true z1, decide_eq_true z2, decide_eq_true z3] at h12
          cases h12
        · rw [upd_same]
          unfold iV
          rw [List.map_replicate]
theorem ok_RunsReader_end (T : Tx K mg) : DefOk P w K mg base 1 (He.ma K (He.ga K "RunsReader") "end") ["self"] (spREnd K isRunsR) := by
  refine def_ok (N := n_RunsReader_end) (fn_RunsReader_end T) sc_RunsReader_end (fun _ _ _ _ _ _ us hl => match us, hl with | [_], _ => rfl) (fun vs H Q E h => ?_) (fun cdv A outer s H vs Q E hr h => ?_)
  · obtain ⟨p, l, st, rfl, _⟩ := h
    rfl
  · obtain ⟨p, l, st, rfl, hst, hw, hk, q, qc, qw⟩ := h
    clear qw
    cases st <;> simp only [isRunsR] at hst
    rename_i done many lastN lastB
    obtain ⟨dx, hp, hl⟩ := hw
    refine ⟨_, [_], (pss_cons (ps_if (pt_cmpR op_gt (pe_fld (pv 0) rfl) pe_int (nomark _)) (pss_one (ps_raise rfl (takes_of rfl rfl rfl rfl) (pmk_own PySem.F.excBase_ValueError (xc_Cut T).1 (g_Cut T) (xc_Cut T).2.1 (raises_own (xc_Cut T).2.2.1 (xc_Cut T).2.2.2) rfl))) pss_nil)
      (pss_one (ps_ret (pe_lst pa_nil)))), rfl, ?_⟩
    try dsimp only [cxOf]
    wtm_at "x"
    refine ite_d (fun hc => ?_) fun hc => ?_
    · exact qc (if_pos hc) _ Only'.refl
    · wtm_at "x"
      intro r hr
      exact q _ (if_neg hc) _ r hr upd_same (by wtm_at "only")
end
end Flow

namespace Flow
open PySem PySem.Spec PyProof.Rows L2
def spBlock (K : PySem.W.Frag) : Sp := fun vs H Q E => ∃ (p l dx : Addr) (size done check : Int) (held : Row), vs = [.ref p] ∧ H p = some (.ins (He.ga K "ChecksReader") dx [("size", .int size), ("done", .int done), ("check", .int check), ("held", .ref l)]) ∧ H l = some (.lst (iV held)) ∧ 0 ≤ check ∧ check < 65521 ∧
  (blockTail held = checkBytes (checkAll check (blockRow held)) → ∀ (H' : Hp) (l' r : Addr), RAt K H' p l' (.checks size done (checkAll check (blockRow held)) []) → H l' = none → H r = none → H' r = some (.lst (iV (blockRow held))) → Only' [p, l] H H' → Q (.ref r) H') ∧
  (¬ blockTail held = checkBytes (checkAll check (blockRow held)) → wrongX K [p, l] H (done - 1) E)
section
variable {P : Program} {w : World} {K : PySem.W.Frag} {mg : Str → Option Value} {base : Heap}
/-! ### ChunksReader -/
theorem ok_ChunksReader_init (T : Tx K mg) : DefOk P w K mg base 1 (He.ma K (He.ga K "ChunksReader") "__init__") ["self", "size"] (spRInit K (He.ga K "ChunksReader") fun a H st => ∃ n, a = [.int n] ∧ st = .chunks n 0 0 false) := by
  refine def_ok (N := n_ChunksReader_init) (fn_ChunksReader_init T) sc_ChunksReader_init (fun _ _ _ _ _ _ us hl => match us, hl with | [_, _], _ => rfl) (fun vs H Q E h => ?_) (fun cdv A outer s H vs Q E hr h => ?_)
  · obtain ⟨p, dx, a, st, rfl, _, _, ⟨n, rfl, _⟩, _⟩ := h
    rfl
  · obtain ⟨p, dx, a, st, rfl, hp, hd, ⟨n, rfl, rfl⟩, q⟩ := h
    have hpd : dx ≠ p := ne_of hd hp (by intro z; cases z)
    refine ⟨_, [_, _], (pss_cons (ps_fld (pv 0) (pv 1) rfl)
      (pss_cons (ps_fld (pv 0) pe_int rfl)
      (pss_cons (ps_fld (pv 0) pe_int rfl)
      (pss_one (ps_fld (pv 0) pe_bl rfl))))), rfl, ?_⟩
    try dsimp only [cxOf]
    wtm_at "x"
    exact q _ dx ⟨by wtm_at "h", by wtm_at "h"⟩ (Or.inl rfl) (by wtm_at "only")
theorem ok_ChunksReader_take (T : Tx K mg) : DefOk P w K mg base 3 (He.ma K (He.ga K "ChunksReader") "take") ["self", "byte"] (spRTake K isChunksR) := by
  obtain ⟨fdW, DW⟩ := ok_Wrong_init (P := P) (w := w) (base := base) T
  refine def_ok (N := n_ChunksReader_take) (fn_ChunksReader_take T) sc_ChunksReader_take (fun _ _ _ _ _ _ us hl => match us, hl with | [_, _], _ => rfl) (fun vs H Q E h => ?_) (fun cdv A outer s H vs Q E hr h => ?_)
  · obtain ⟨p, l, st, b, rfl, _⟩ := h
    rfl
  · obtain ⟨p, l, st, b, rfl, hst, hw, hk, hb, q, qw⟩ := h
    cases st <;> simp only [isChunksR] at hst
    rename_i size done left isLast
    obtain ⟨hp, hl⟩ := hw
    have hpl : l ≠ p := ne_of hl hp (by intro z; cases z)
    refine ⟨_, [_, _, _], (pss_cons (ps_set (i := 2) sc_ChunksReader_take.nd rfl (Or.inl rfl) (pe_fld (pv 0) rfl))
      (pss_cons (ps_fld (pv 0) (pe_op op_add (pv 2) pe_int) rfl)
      (pss_cons (ps_if (pt_cmpR op_gt (pe_fld (pv 0) rfl) pe_int (nomark _)) (pss_cons (ps_fld (pv 0) (pe_op op_sub (pe_fld (pv 0) rfl) pe_int) rfl)
      (pss_one (ps_ret (pe_lst (pa_cons (pv 1) pa_nil))))) pss_nil)
      (pss_cons (ps_if (PW.pt (pw_or (pt_val (pe_fld (pv 0) rfl)) (pw_or1 (pt_cmpR op_gt (pv 1) (pe_fld (pv 0) rfl) (nomark _))))) (pss_one (ps_raise rfl (takes_of rfl rfl rfl rfl) (pmk_oex (oex_Wrong T) (me_Wrong_init T).at_ (fnT (me_Wrong_init T)) DW.1 (hr.mono (by first | decide | omega)) DW.2 .nil passL rfl (g_Wrong T) (pa_cons (pv 2) pa_nil)))) pss_nil)
      (pss_cons (ps_fld (pv 0) (pv 1) rfl)
      (pss_cons (ps_fld (pv 0) (pe_cmpR op_lt (pv 1) (pe_fld (pv 0) rfl) (nomark _)) rfl)
      (pss_one (ps_ret (pe_lst pa_nil))))))))), rfl, ?_⟩
    try dsimp only [cxOf]
    wtm_at "x"
    refine ite_d (fun hc => ?_) fun hc => ?_
    · wtm_at "x"
      intro r hr
      obtain ⟨_, hr⟩ := upd_none hr
      obtain ⟨_, hr0⟩ := upd_none hr
      refine q [b] (.chunks size (done + 1) (left - 1) isLast) ?_ _ l r ⟨by wtm_at "h", by wtm_at "h"⟩ (Or.inl rfl) hr0 upd_same (by wtm_at "only")
      simp only [rtake]
      rw [if_pos hc]
    · wtm_at "x"
      refine x_orJ (a := isLast) (b := decide (size < b)) (fun B' k => ?_) (fun _ B' k => ?_) (fun h12 => ?_) (fun h1 h2 => ?_)
      · wtm_at "x"
        exact k
      · wtm_at "x"
        exact k
      · refine iteT ?_
        refine x_wrong (fun R k => by wtm_at "x"; exact k) ?_
        refine wrong_go (qw done ?_) (by wtm_at "only") (by simp)
        simp only [rtake]
        rw [if_neg hc, if_pos ?_]
        rw [Bool.or_eq_true] at h12
        exact h12.imp id fun z => of_decide_eq_true z
      · refine iteF ?_
        wtm_at "x"
        intro r hr
        obtain ⟨_, hr⟩ := upd_none hr
        obtain ⟨_, hr⟩ := upd_none hr
        obtain ⟨_, hr0⟩ := upd_none hr
        refine q [] (.chunks size (done + 1) b (decide (b < size))) ?_ _ l r ⟨by wtm_at "h", by wtm_at "h"⟩ (Or.inl rfl) hr0 upd_same (by wtm_at "only")
        simp only [rtake]
        rw [if_neg hc, if_neg ?_]
        rintro (z | z)
        · rw [h1] at z
          cases z
        · rw [decide_eq_true z] at h2
          cases h2
theorem ok_ChunksReader_end (T : Tx K mg) : DefOk P w K mg base 1 (He.ma K (He.ga K "ChunksReader") "end") ["self"] (spREnd K isChunksR) := by
  refine def_ok (N := n_ChunksReader_end) (fn_ChunksReader_end T) sc_ChunksReader_end (fun _ _ _ _ _ _ us hl => match us, hl with | [_], _ => rfl) (fun vs H Q E h => ?_) (fun cdv A outer s H vs Q E hr h => ?_)
  · obtain ⟨p, l, st, rfl, _⟩ := h
    rfl
  · obtain ⟨p, l, st, rfl, hst, hw, hk, q, qc, qw⟩ := h
    clear qw
    cases st <;> simp only [isChunksR] at hst
    rename_i size done left isLast
    obtain ⟨hp, hl⟩ := hw
    refine ⟨_, [_], (pss_cons (ps_if (PW.pt (pw_or (pt_cmpR op_gt (pe_fld (pv 0) rfl) pe_int (nomark _)) (pw_or1 (pt_not (pt_val (pe_fld (pv 0) rfl)))))) (pss_one (ps_raise rfl (takes_of rfl rfl rfl rfl) (pmk_own PySem.F.excBase_ValueError (xc_Cut T).1 (g_Cut T) (xc_Cut T).2.1 (raises_own (xc_Cut T).2.2.1 (xc_Cut T).2.2.2) rfl))) pss_nil)
      (pss_one (ps_ret (pe_lst pa_nil)))), rfl, ?_⟩
    try dsimp only [cxOf]
    wtm_at "x"
    refine x_orJ (a := decide (0 < left)) (b := !isLast) (fun B' k => ?_) (fun _ B' k => ?_) (fun h12 => ?_) (fun h1 h2 => ?_)
    · wtm_at "x"
      exact k
    · wtm_at "x"
      exact k
    · refine iteT ?_
      refine qc ?_ _ Only'.refl
      simp only [rend]
      rw [if_pos ?_]
      rw [Bool.or_eq_true] at h12
      refine h12.imp (fun z => of_decide_eq_true z) fun z z2 => ?_
      rw [z2] at z
      cases z
    · refine iteF ?_
      wtm_at "x"
      intro r hr
      refine q [] ?_ _ r hr upd_same (by wtm_at "only")
      simp only [rend]
      rw [if_neg ?_]
      rintro (z | z)
      · rw [decide_eq_true z] at h1
        cases h1
      · cases isLast
        · cases h2
        · exact z rfl
/-! ### ChecksReader -/
theorem ok_ChecksReader_init (T : Tx K mg) : DefOk P w K mg base 1 (He.ma K (He.ga K "ChecksReader") "__init__") ["self", "size"] (spRInit K (He.ga K "ChecksReader") fun a H st => ∃ n, a = [.int n] ∧ st = .checks n 0 0 []) := by
  refine def_ok (N := n_ChecksReader_init) (fn_ChecksReader_init T) sc_ChecksReader_init (fun _ _ _ _ _ _ us hl => match us, hl with | [_, _], _ => rfl) (fun vs H Q E h => ?_) (fun cdv A outer s H vs Q E hr h => ?_)
  · obtain ⟨p, dx, a, st, rfl, _, _, ⟨n, rfl, _⟩, _⟩ := h
    rfl
  · obtain ⟨p, dx, a, st, rfl, hp, hd, ⟨n, rfl, rfl⟩, q⟩ := h
    refine ⟨_, [_, _], (pss_cons (ps_fld (pv 0) (pv 1) rfl)
      (pss_cons (ps_fld (pv 0) pe_int rfl)
      (pss_cons (ps_fld (pv 0) pe_int rfl)
      (pss_one (ps_fld (pv 0) (pe_lst pa_nil) rfl))))), rfl, ?_⟩
    try dsimp only [cxOf]
    wtm_at "x"
    intro l hl
    obtain ⟨n1, hl⟩ := upd_none hl
    obtain ⟨_, hl⟩ := upd_none hl
    obtain ⟨_, hl0⟩ := upd_none hl
    wtm_at "x"
    exact q _ l ⟨dx, by wtm_at "h", (show _ = some (HO.lst []) by wtm_at "h")⟩ (Or.inr hl0) (by wtm_at "only")
theorem ok_ChecksReader_block (T : Tx K mg) : DefOk P w K mg base 3 (He.ma K (He.ga K "ChecksReader") "block") ["self"] (spBlock K) := by
  obtain ⟨fdW, DW⟩ := ok_Wrong_init (P := P) (w := w) (base := base) T
  have D_checked := ok_checked (P := P) (w := w) (base := base) T
  have D_check_bytes := ok_check_bytes (P := P) (w := w) (base := base) T
  refine def_ok (N := n_ChecksReader_block) (fn_ChecksReader_block T) sc_ChecksReader_block (fun _ _ _ _ _ _ us hl => match us, hl with | [_], _ => rfl) (fun vs H Q E h => ?_) (fun cdv A outer s H vs Q E hr h => ?_)
  · obtain ⟨p, l, dx, size, done, check, held, rfl, _⟩ := h
    rfl
  · obtain ⟨p, l, dx, size, done, check, held, rfl, hp, hl, c0, c1, q, qw⟩ := h
    have hpl : p ≠ l := ne_of hp hl (by intro z; cases z)
    refine ⟨_, [_, _], (pss_cons (ps_set (i := 1) sc_ChecksReader_block.nd rfl (Or.inl rfl) (pe_slice sl_list (pe_fld (pv 0) rfl) po_none (po_some (pe_un un_neg pe_int))))
      (pss_cons (ps_fld (pv 0) (pe_fn D_checked (g_checked T) (hr.mono (by first | decide | omega)) (fun _ => passE) (pa_cons (pe_fld (pv 0) rfl) (pa_cons (pv 1) pa_nil))) rfl)
      (pss_cons (ps_if (pt_cmpR (op_neD hr.units) (pe_slice sl_list (pe_fld (pv 0) rfl) (po_some (pe_un un_neg pe_int)) po_none) (pe_fn D_check_bytes (g_check_bytes T) (hr.mono (by first | decide | omega)) (fun _ => passE) (pa_cons (pe_fld (pv 0) rfl) pa_nil)) (nomark _)) (pss_one (ps_raise rfl (takes_of rfl rfl rfl rfl) (pmk_oex (oex_Wrong T) (me_Wrong_init T).at_ (fnT (me_Wrong_init T)) DW.1 (hr.mono (by first | decide | omega)) DW.2 .nil passL rfl (g_Wrong T) (pa_cons (pe_op op_sub (pe_fld (pv 0) rfl) pe_int) pa_nil)))) pss_nil)
      (pss_cons (ps_fld (pv 0) (pe_lst pa_nil) rfl)
      (pss_one (ps_ret (pv 1))))))), rfl, ?_⟩
    try dsimp only [cxOf]
    wtm_at "x"
    intro r hr0
    have n1 : r ≠ p := (ne_of_none hp hr0).symm
    have n2 : r ≠ l := (ne_of_none hl hr0).symm
    have er : cutV (iV held) none (some (-2)) = iV (blockRow held) := by
      rw [show ((-2 : Int)) = -((2 : Nat) : Int) from rfl, cut_toN (by decide), iV_length]
      unfold blockRow iV
      rw [List.map_take]
    rw [er]
    wtm_at "x"
    refine ⟨r, check, blockRow held, rfl, SqL.of upd_same, c0, c1, ?_⟩
    wtm_at "x"
    intro t1 ht1
    obtain ⟨n3, ht1⟩ := upd_none ht1
    obtain ⟨n4, ht10⟩ := upd_none ht1
    have n5 : t1 ≠ l := (ne_of_none hl ht10).symm
    have et : cutV (iV held) (some (-2)) none = iV (blockTail held) := by
      rw [show ((-2 : Int)) = -((2 : Nat) : Int) from rfl, cut_fromN (by decide), iV_length]
      unfold blockTail iV
      rw [List.map_drop]
    rw [et]
    wtm_at "x"
    refine ⟨checkAll check (blockRow held), rfl, fun t2 ht2 => ?_⟩
    obtain ⟨n6, ht2⟩ := upd_none ht2
    obtain ⟨n7, ht2⟩ := upd_none ht2
    obtain ⟨n8, ht20⟩ := upd_none ht2
    have n9 : t2 ≠ l := (ne_of_none hl ht20).symm
    refine x_neD (dp_row (r := blockTail held) (SqL.of (by wtm_at "h"))) (dp_row (r := checkBytes (checkAll check (blockRow held))) (SqL.of upd_same)) (row_shaped _) (row_shaped _) ?_
    rw [row_eqv]
    wtm_at "x"
    refine ite_nd (fun hc => ?_) fun hc => ?_
    · refine x_wrong (fun R k => by wtm_at "x"; exact k) ?_
      exact wrong_go (qw hc) (by wtm_at "only") (by simp)
    · wtm_at "x"
      intro l' hl'
      obtain ⟨m1, hl'⟩ := upd_none hl'
      obtain ⟨m2, hl'⟩ := upd_none hl'
      obtain ⟨m3, hl'⟩ := upd_none hl'
      obtain ⟨m4, hl'0⟩ := upd_none hl'
      wtm_at "x"
      exact q hc _ l' r ⟨dx, by wtm_at "h", (show _ = some (HO.lst []) by wtm_at "h")⟩ hl'0 hr0 (by wtm_at "h") (by wtm_at "only")
theorem ok_ChecksReader_take (T : Tx K mg) : DefOk P w K mg base 4 (He.ma K (He.ga K "ChecksReader") "take") ["self", "byte"] (spRTake K isChecksR) := by
  have M_ChecksReader_block := meth1 (cl_ChecksReader T) (me_ChecksReader_block T) (ok_ChecksReader_block (P := P) (w := w) (base := base) T)
  refine def_ok (N := n_ChecksReader_take) (fn_ChecksReader_take T) sc_ChecksReader_take (fun _ _ _ _ _ _ us hl => match us, hl with | [_, _], _ => rfl) (fun vs H Q E h => ?_) (fun cdv A outer s H vs Q E hr h => ?_)
  · obtain ⟨p, l, st, b, rfl, _⟩ := h
    rfl
  · obtain ⟨p, l, st, b, rfl, hst, hw, hk, hb, q, qw⟩ := h
    cases st <;> simp only [isChecksR] at hst
    rename_i size done check held
    obtain ⟨dx, hp, hl⟩ := hw
    obtain ⟨k1, k2, k3, k4, k5, k6⟩ := hk
    have hpl : p ≠ l := ne_of hp hl (by intro z; cases z)
    have hln : (iV held).length < sizeLine := by rw [iV_length, sizeLine_eq]; omega
    refine ⟨_, [_, _], (pss_cons (ps_fld (pv 0) (pe_op op_add (pe_fld (pv 0) rfl) pe_int) rfl)
      (pss_cons (ps_expr (pe_bm PySem.F.plainAttrs_list PySem.F.slot_list_append PySem.F.type_list_append mt_append (pe_fld (pv 0) rfl) (pa_cons (pv 1) pa_nil)))
      (pss_cons (ps_if (pt_cmpR op_eq (pe_callB call_lenS rfl (f_len T) (by decide +kernel) (pa_cons (pe_fld (pv 0) rfl) pa_nil)) (pe_op op_add (pe_fld (pv 0) rfl) pe_int) (nomark _)) (pss_one (ps_ret (pe_mm0 M_ChecksReader_block (hr.mono (by first | decide | omega)) (fun σ => passAt (takes_of rfl rfl rfl rfl) σ) (pv 0)))) pss_nil)
      (pss_one (ps_ret (pe_lst pa_nil)))))), rfl, ?_⟩
    try dsimp only [cxOf]
    wtm_at "x"
    have ea : iV held ++ [V.int b] = iV (held ++ [b]) := by rw [iV_append]; rfl
    rw [ea, iV_length]
    refine ite_d (fun hc => ?_) fun hc => ?_
    · wtm_at "x"
      refine ⟨p, l, dx, size, done + 1, check, held ++ [b], rfl, by wtm_at "h", by wtm_at "h", k3, k4, fun ht H' l' r hw' hl' hr hr' ho => ?_, fun ht => ?_⟩
      · obtain ⟨_, hl'⟩ := upd_none hl'
        obtain ⟨_, hl'0⟩ := upd_none hl'
        obtain ⟨_, hr⟩ := upd_none hr
        obtain ⟨_, hr0⟩ := upd_none hr
        refine q _ (.checks size (done + 1) (checkAll check (blockRow (held ++ [b]))) []) ?_ _ l' r hw' (Or.inr hl'0) hr0 hr' (Only'.trans (by wtm_at "only") ho)
        simp only [rtake]
        rw [if_pos hc, if_pos ht]
      · have e2 : done + 1 - 1 = done := by omega
        rw [e2]
        refine wrong_go (qw done ?_) (by wtm_at "only") (by simp)
        simp only [rtake]
        rw [if_pos hc, if_neg ht]
    · wtm_at "x"
      intro r hr
      obtain ⟨_, hr⟩ := upd_none hr
      obtain ⟨_, hr0⟩ := upd_none hr
      have n1 : r ≠ l := (ne_of_none hl hr0).symm
      refine q [] (.checks size (done + 1) check (held ++ [b])) ?_ _ l r ⟨dx, by wtm_at "h", by wtm_at "h"⟩ (Or.inl rfl) hr0 upd_same (by wtm_at "only")
      simp only [rtake]
      rw [if_neg hc]
theorem ok_ChecksReader_end (T : Tx K mg) : DefOk P w K mg base 4 (He.ma K (He.ga K "ChecksReader") "end") ["self"] (spREnd K isChecksR) := by
  have M_ChecksReader_block := meth1 (cl_ChecksReader T) (me_ChecksReader_block T) (ok_ChecksReader_block (P := P) (w := w) (base := base) T)
  refine def_ok (N := n_ChecksReader_end) (fn_ChecksReader_end T) sc_ChecksReader_end (fun _ _ _ _ _ _ us hl => match us, hl with | [_], _ => rfl) (fun vs H Q E h => ?_) (fun cdv A outer s H vs Q E hr h => ?_)
  · obtain ⟨p, l, st, rfl, _⟩ := h
    rfl
  · obtain ⟨p, l, st, rfl, hst, hw, hk, q, qc, qw⟩ := h
    cases st <;> simp only [isChecksR] at hst
    rename_i size done check held
    obtain ⟨dx, hp, hl⟩ := hw
    obtain ⟨k1, k2, k3, k4, k5, k6⟩ := hk
    refine ⟨_, [_], (pss_cons (ps_if (pt_cmpR op_lt (pe_callB call_lenS rfl (f_len T) (by decide +kernel) (pa_cons (pe_fld (pv 0) rfl) pa_nil)) pe_int (nomark _)) (pss_one (ps_raise rfl (takes_of rfl rfl rfl rfl) (pmk_own PySem.F.excBase_ValueError (xc_Cut T).1 (g_Cut T) (xc_Cut T).2.1 (raises_own (xc_Cut T).2.2.1 (xc_Cut T).2.2.2) rfl))) pss_nil)
      (pss_one (ps_ret (pe_mm0 M_ChecksReader_block (hr.mono (by first | decide | omega)) (fun σ => passAt (takes_of rfl rfl rfl rfl) σ) (pv 0))))), rfl, ?_⟩
    try dsimp only [cxOf]
    wtm_at "x"
    rw [iV_length]
    refine ite_d (fun hc => ?_) fun hc => ?_
    · exact qc (if_pos hc) _ Only'.refl
    · wtm_at "x"
      refine ⟨p, l, dx, size, done, check, held, rfl, hp, hl, k3, k4, fun ht H' l' r hw' hl' hr hr' ho => ?_, fun ht => ?_⟩
      · refine q _ ?_ _ r hr hr' ho
        simp only [rend]
        rw [if_neg hc, if_pos ht]
      · refine qw _ ?_
        simp only [rend]
        rw [if_neg hc, if_neg ht]
/-! ### SignsReader -/
theorem ok_SignsReader_init (T : Tx K mg) : DefOk P w K mg base 1 (He.ma K (He.ga K "SignsReader") "__init__") ["self"] (spRInit K (He.ga K "SignsReader") fun a H st => a = [] ∧ st = .signs 0 0 0) := by
  refine def_ok (N := n_SignsReader_init) (fn_SignsReader_init T) sc_SignsReader_init (fun _ _ _ _ _ _ us hl => match us, hl with | [_], _ => rfl) (fun vs H Q E h => ?_) (fun cdv A outer s H vs Q E hr h => ?_)
  · obtain ⟨p, dx, a, st, rfl, _, _, ⟨rfl, _⟩, _⟩ := h
    rfl
  · obtain ⟨p, dx, a, st, rfl, hp, hd, ⟨rfl, rfl⟩, q⟩ := h
    have hpd : dx ≠ p := ne_of hd hp (by intro z; cases z)
    refine ⟨_, [_], (pss_cons (ps_fld (pv 0) pe_int rfl)
      (pss_cons (ps_fld (pv 0) pe_int rfl)
      (pss_one (ps_fld (pv 0) pe_int rfl)))), rfl, ?_⟩
    try dsimp only [cxOf]
    wtm_at "x"
    exact q _ dx ⟨by wtm_at "h", by wtm_at "h"⟩ (Or.inl rfl) (by wtm_at "only")
theorem ok_SignsReader_take (T : Tx K mg) : DefOk P w K mg base 3 (He.ma K (He.ga K "SignsReader") "take") ["self", "byte"] (spRTake K isSignsR) := by
  obtain ⟨fdW, DW⟩ := ok_Wrong_init (P := P) (w := w) (base := base) T
  refine def_ok (N := n_SignsReader_take) (fn_SignsReader_take T) sc_SignsReader_take (fun _ _ _ _ _ _ us hl => match us, hl with | [_, _], _ => rfl) (fun vs H Q E h => ?_) (fun cdv A outer s H vs Q E hr h => ?_)
  · obtain ⟨p, l, st, b, rfl, _⟩ := h
    rfl
  · obtain ⟨p, l, st, b, rfl, hst, hw, hk, hb, q, qw⟩ := h
    cases st <;> simp only [isSignsR] at hst
    rename_i done many value
    obtain ⟨hp, hl⟩ := hw
    obtain ⟨k1, k2, k3⟩ := hk
    have hpl : l ≠ p := ne_of hl hp (by intro z; cases z)
    refine ⟨_, [_, _, _, _], (pss_cons (ps_set (i := 2) sc_SignsReader_take.nd rfl (Or.inl rfl) (pe_fld (pv 0) rfl))
      (pss_cons (ps_fld (pv 0) (pe_op op_add (pv 2) pe_int) rfl)
      (pss_cons (ps_if (pt_cmpR op_notIn_seq (pv 1) (pe_gr (g_SIGNS T)) (by rfl)) (pss_one (ps_raise rfl (takes_of rfl rfl rfl rfl) (pmk_oex (oex_Wrong T) (me_Wrong_init T).at_ (fnT (me_Wrong_init T)) DW.1 (hr.mono (by first | decide | omega)) DW.2 .nil passL rfl (g_Wrong T) (pa_cons (pv 2) pa_nil)))) pss_nil)
      (pss_cons (ps_fld (pv 0) (pe_op op_add (pe_op op_mul (pe_fld (pv 0) rfl) pe_int) (pe_bm PySem.F.plainAttrs_tuple PySem.F.slot_tuple_index PySem.F.type_tuple_index mt_tupIx (pe_gr (g_SIGNS T)) (pa_cons (pv 1) pa_nil))) rfl)
      (pss_cons (ps_fld (pv 0) (pe_op op_add (pe_fld (pv 0) rfl) pe_int) rfl)
      (pss_cons (ps_if (pt_cmpR op_lt (pe_fld (pv 0) rfl) pe_int (nomark _)) (pss_one (ps_ret (pe_lst pa_nil))) pss_nil)
      (pss_cons (ps_fld (pv 0) (pe_op op_sub (pe_fld (pv 0) rfl) pe_int) rfl)
      (pss_cons (ps_set (i := 3) sc_SignsReader_take.nd rfl (Or.inl rfl) (pe_op op_fdivN (pe_fld (pv 0) rfl) (pe_ix ix_tup (pe_gr (g_POWERS T)) (pe_fld (pv 0) rfl) (fun _ _ => rfl))))
      (pss_cons (ps_fld (pv 0) (pe_op op_modN (pe_fld (pv 0) rfl) (pe_ix ix_tup (pe_gr (g_POWERS T)) (pe_fld (pv 0) rfl) (fun _ _ => rfl))) rfl)
      (pss_one (ps_ret (pe_lst (pa_cons (pv 3) pa_nil))))))))))))), rfl, ?_⟩
    try dsimp only [cxOf]
    wtm_at "x"
    refine x_ninI (Or.inr (t_SIGNS T _)) ?_
    wtm_at "x"
    refine ite_nd (fun hc => ?_) fun hc => ?_
    · refine x_wrong (fun R k => by wtm_at "x"; exact k) ?_
      refine wrong_go (qw done ?_) (by wtm_at "only") (by simp)
      simp only [rtake]
      rw [if_neg hc]
    · wtm_at "x"
      refine ⟨Or.inr (Or.inl ⟨rfl, nd_SIGNS T⟩), ?_⟩
      wtm_at "x"
      refine x_tupIx (t_SIGNS T _) hc ?_
      wtm_at "x"
      refine ite_d (fun hc2 => ?_) fun hc2 => ?_
      · wtm_at "x"
        intro r hr
        obtain ⟨_, hr⟩ := upd_none hr
        obtain ⟨_, hr⟩ := upd_none hr
        obtain ⟨_, hr0⟩ := upd_none hr
        refine q [] (.signs (done + 1) (many + 6) (value * 64 + (signsT.idxOf b : Int))) ?_ _ l r ⟨by wtm_at "h", by wtm_at "h"⟩ (Or.inl rfl) hr0 upd_same (by wtm_at "only")
        simp only [rtake]
        rw [if_pos hc, if_pos hc2]
      · have e1 : many + 6 - 8 = many - 2 := by omega
        have hix : atI (iV powersT) (many - 2) = some (V.int (pow2 (many - 2))) := gI_at (by omega) (by show many - 2 < 8; omega)
        have hpw : 0 < pow2 (many - 2) ∧ pow2 (many - 2) ≤ 16 := by
          rcases k1 with rfl | rfl | rfl | rfl
          · omega
          · exact ⟨by decide, by decide⟩
          · exact ⟨by decide, by decide⟩
          · exact ⟨by decide, by decide⟩
        have hfd : (value * 64 + (signsT.idxOf b : Int)).fdiv (pow2 (many - 2)) = (value * 64 + (signsT.idxOf b : Int)) / pow2 (many - 2) := fdiv_pos (by omega)
        have hfm : (value * 64 + (signsT.idxOf b : Int)).fmod (pow2 (many - 2)) = (value * 64 + (signsT.idxOf b : Int)) % pow2 (many - 2) := fmod_pos (by omega)
        wtm_at "x"
        rw [e1]
        refine x_ixT (t_POWERS T _) hix ?_
        wtm_at "x"
        rw [hfd]
        refine x_ixT (t_POWERS T _) hix ?_
        wtm_at "x"
        rw [hfm]
        intro r hr
        obtain ⟨_, hr⟩ := upd_none hr
        obtain ⟨_, hr⟩ := upd_none hr
        obtain ⟨_, hr⟩ := upd_none hr
        obtain ⟨_, hr⟩ := upd_none hr
        obtain ⟨_, hr0⟩ := upd_none hr
        refine q [(value * 64 + (signsT.idxOf b : Int)) / pow2 (many - 2)] (.signs (done + 1) (many - 2) ((value * 64 + (signsT.idxOf b : Int)) % pow2 (many - 2))) ?_ _ l r ⟨by wtm_at "h", by wtm_at "h"⟩ (Or.inl rfl) hr0 upd_same (by wtm_at "only")
        simp only [rtake]
        rw [if_pos hc, if_neg hc2]
theorem ok_SignsReader_end (T : Tx K mg) : DefOk P w K mg base 3 (He.ma K (He.ga K "SignsReader") "end") ["self"] (spREnd K isSignsR) := by
  obtain ⟨fdW, DW⟩ := ok_Wrong_init (P := P) (w := w) (base := base) T
  refine def_ok (N := n_SignsReader_end) (fn_SignsReader_end T) sc_SignsReader_end (fun _ _ _ _ _ _ us hl => match us, hl with | [_], _ => rfl) (fun vs H Q E h => ?_) (fun cdv A outer s H vs Q E hr h => ?_)
  · obtain ⟨p, l, st, rfl, _⟩ := h
    rfl
  · obtain ⟨p, l, st, rfl, hst, hw, hk, q, qc, qw⟩ := h
    cases st <;> simp only [isSignsR] at hst
    rename_i done many value
    obtain ⟨hp, hl⟩ := hw
    refine ⟨_, [_], (pss_cons (ps_if (pt_cmpR op_eq (pe_fld (pv 0) rfl) pe_int (nomark _)) (pss_one (ps_raise rfl (takes_of rfl rfl rfl rfl) (pmk_own PySem.F.excBase_ValueError (xc_Cut T).1 (g_Cut T) (xc_Cut T).2.1 (raises_own (xc_Cut T).2.2.1 (xc_Cut T).2.2.2) rfl))) pss_nil)
      (pss_cons (ps_if (pt_cmpR op_gt (pe_fld (pv 0) rfl) pe_int (nomark _)) (pss_one (ps_raise rfl (takes_of rfl rfl rfl rfl) (pmk_oex (oex_Wrong T) (me_Wrong_init T).at_ (fnT (me_Wrong_init T)) DW.1 (hr.mono (by first | decide | omega)) DW.2 .nil passL rfl (g_Wrong T) (pa_cons (pe_op op_sub (pe_fld (pv 0) rfl) pe_int) pa_nil)))) pss_nil)
      (pss_one (ps_ret (pe_lst pa_nil))))), rfl, ?_⟩
    try dsimp only [cxOf]
    wtm_at "x"
    refine ite_d (fun hc => ?_) fun hc => ?_
    · exact qc (if_pos hc) _ Only'.refl
    · wtm_at "x"
      refine ite_d (fun hc2 => ?_) fun hc2 => ?_
      · refine x_wrong (fun R k => by wtm_at "x"; exact k) ?_
        refine wrong_go (qw (done - 1) ?_) Only'.refl (by simp)
        simp only [rend]
        rw [if_neg hc, if_pos hc2]
      · wtm_at "x"
        intro r hr
        refine q [] ?_ _ r hr upd_same (by wtm_at "only")
        simp only [rend]
        rw [if_neg hc, if_neg hc2]
end
end Flow

namespace Flow
open PySem PySem.Spec PyProof.Rows L2
theorem RAt_parts (K : PySem.W.Frag) : PartsP (RAt K) := by
  constructor
  · intro H H' p l s h hp hl
    cases s <;> simp only [RAt] at h ⊢
    · obtain ⟨dx, h1, h2⟩ := h
      exact ⟨dx, hp _ h1, hl _ h2⟩
    · obtain ⟨dx, h1, h2⟩ := h
      exact ⟨dx, hp _ h1, hl _ h2⟩
    · obtain ⟨dx, h1, h2⟩ := h
      exact ⟨dx, hp _ h1, hl _ h2⟩
    · obtain ⟨dx, h1, h2⟩ := h
      exact ⟨dx, hp _ h1, hl _ h2⟩
    · exact ⟨hp _ h.1, hl _ h.2⟩
    · obtain ⟨dx, h1, h2⟩ := h
      exact ⟨dx, hp _ h1, hl _ h2⟩
    · exact ⟨hp _ h.1, hl _ h.2⟩
  · intro H p l s h
    cases s <;> simp only [RAt] at h
    · obtain ⟨dx, h1, h2⟩ := h
      exact ⟨⟨_, h1⟩, ⟨_, h2⟩⟩
    · obtain ⟨dx, h1, h2⟩ := h
      exact ⟨⟨_, h1⟩, ⟨_, h2⟩⟩
    · obtain ⟨dx, h1, h2⟩ := h
      exact ⟨⟨_, h1⟩, ⟨_, h2⟩⟩
    · obtain ⟨dx, h1, h2⟩ := h
      exact ⟨⟨_, h1⟩, ⟨_, h2⟩⟩
    · exact ⟨⟨_, h.1⟩, ⟨_, h.2⟩⟩
    · obtain ⟨dx, h1, h2⟩ := h
      exact ⟨⟨_, h1⟩, ⟨_, h2⟩⟩
    · exact ⟨⟨_, h.1⟩, ⟨_, h.2⟩⟩
theorem RAt_ins {K : PySem.W.Frag} {H : Hp} {p l : Addr} {s : RSt} (h : RAt K H p l s) : ∃ dx fs, H p = some (.ins (He.ga K (RName s)) dx fs) ∧ fs.lookup ("take" : Str) = none ∧ fs.lookup ("end" : Str) = none := by
  cases s <;> simp only [RAt] at h
  · obtain ⟨dx, h1, h2⟩ := h
    exact ⟨_, _, h1, by kernel_rfl, by kernel_rfl⟩
  · obtain ⟨dx, h1, h2⟩ := h
    exact ⟨_, _, h1, by kernel_rfl, by kernel_rfl⟩
  · obtain ⟨dx, h1, h2⟩ := h
    exact ⟨_, _, h1, by kernel_rfl, by kernel_rfl⟩
  · obtain ⟨dx, h1, h2⟩ := h
    exact ⟨_, _, h1, by kernel_rfl, by kernel_rfl⟩
  · exact ⟨_, _, h.1, by kernel_rfl, by kernel_rfl⟩
  · obtain ⟨dx, h1, h2⟩ := h
    exact ⟨_, _, h1, by kernel_rfl, by kernel_rfl⟩
  · exact ⟨_, _, h.1, by kernel_rfl, by kernel_rfl⟩
def isLikeR : RSt → RSt → Prop
  | .add _ _ => isAddR
  | .front _ => isFrontR
  | .esc _ _ _ => isEscR
  | .runs _ _ _ _ => isRunsR
  | .chunks _ _ _ _ => isChunksR
  | .checks _ _ _ _ => isChecksR
  | .signs _ _ _ => isSignsR
theorem isLikeR_self (s : RSt) : isLikeR s s := by cases s <;> trivial
section
variable {P : Program} {w : World} {K : PySem.W.Frag} {mg : Str → Option Value} {base : Heap}
theorem rtake_meth (T : Tx K mg) (s : RSt) : MethOk P w K mg base 5 (He.ga K (RName s)) "take" ["self", "byte"] (spRTake K (isLikeR s)) := by
  cases s
  · exact ⟨cl_AddReader T, _, me_AddReader_take T, (ok_AddReader_take T).mono (by decide)⟩
  · exact ⟨cl_FrontReader T, _, me_FrontReader_take T, (ok_FrontReader_take T).mono (by decide)⟩
  · exact ⟨cl_EscapeReader T, _, me_EscapeReader_take T, (ok_EscapeReader_take T).mono (by decide)⟩
  · exact ⟨cl_RunsReader T, _, me_RunsReader_take T, (ok_RunsReader_take T).mono (by decide)⟩
  · exact ⟨cl_ChunksReader T, _, me_ChunksReader_take T, (ok_ChunksReader_take T).mono (by decide)⟩
  · exact ⟨cl_ChecksReader T, _, me_ChecksReader_take T, (ok_ChecksReader_take T).mono (by decide)⟩
  · exact ⟨cl_SignsReader T, _, me_SignsReader_take T, (ok_SignsReader_take T).mono (by decide)⟩
theorem rend_meth (T : Tx K mg) (s : RSt) : MethOk P w K mg base 5 (He.ga K (RName s)) "end" ["self"] (spREnd K (isLikeR s)) := by
  cases s
  · exact ⟨cl_AddReader T, _, me_AddReader_end T, (ok_AddReader_end T).mono (by decide)⟩
  · exact ⟨cl_FrontReader T, _, me_FrontReader_end T, (ok_FrontReader_end T).mono (by decide)⟩
  · exact ⟨cl_EscapeReader T, _, me_EscapeReader_end T, (ok_EscapeReader_end T).mono (by decide)⟩
  · exact ⟨cl_RunsReader T, _, me_RunsReader_end T, (ok_RunsReader_end T).mono (by decide)⟩
  · exact ⟨cl_ChunksReader T, _, me_ChunksReader_end T, (ok_ChunksReader_end T).mono (by decide)⟩
  · exact ⟨cl_ChecksReader T, _, me_ChecksReader_end T, (ok_ChecksReader_end T).mono (by decide)⟩
  · exact ⟨cl_SignsReader T, _, me_SignsReader_end T, (ok_SignsReader_end T).mono (by decide)⟩
theorem x_rtake (T : Tx K mg) {H : Hp} {p l : Addr} {s : RSt} {b : Int} {E : XK} {ta : TE} {σ : L2.St} {Q : VK} (hw : RAt K H p l s) (hk : ROk s) (hb : By b) (ha : ∀ R : VK, R (.int b) H → ta σ H R)
    (q : ∀ (row : Row) (s' : RSt), rtake s b = .ok row s' → ∀ (H' : Hp) (l' r : Addr), RAt K H' p l' s' → (l' = l ∨ H l' = none) → H r = none → H' r = some (.lst (iV row)) → Only' [p, l] H H' → Q (.ref r) H')
    (qw : ∀ place, rtake s b = .wrong place → wrongX K [p, l] H place E) :
    rMu P w K mg base 5 "take" ["self", "byte"] E (tCons ta tNil) σ (.ref p) H Q := by
  obtain ⟨dx, fs, hp, h1, h2⟩ := RAt_ins hw
  refine x_rMu hp (rtake_meth T s) h1 ?_
  refine ha _ ?_
  exact ⟨p, l, s, b, rfl, isLikeR_self s, hw, hk, hb, q, qw⟩
theorem x_rend (T : Tx K mg) {H : Hp} {p l : Addr} {s : RSt} {E : XK} {σ : L2.St} {Q : VK} (hw : RAt K H p l s) (hk : ROk s)
    (q : ∀ (row : Row), rend s = .ok row → ∀ (H' : Hp) (r : Addr), H r = none → H' r = some (.lst (iV row)) → Only' [p, l] H H' → Q (.ref r) H')
    (qc : rend s = .cut → ∀ H', Only' [p, l] H H' → E (.ref (He.ga K "Cut")) none H') (qw : ∀ place, rend s = .wrong place → wrongX K [p, l] H place E) :
    rMu P w K mg base 5 "end" ["self"] E tNil σ (.ref p) H Q := by
  obtain ⟨dx, fs, hp, h1, h2⟩ := RAt_ins hw
  refine x_rMu hp (rend_meth T s) h2 ?_
  exact ⟨p, l, s, rfl, isLikeR_self s, hw, hk, q, qc, qw⟩
def spReaderOf (K : PySem.W.Frag) : Sp := fun vs H Q _ => ∃ (t : Addr) (ly : Lay), vs = [.ref t] ∧ SqT K H t (layV ly) ∧ ly.Ok ∧
  ∀ (H' : Hp) (p l : Addr), RAt K H' p l (newR ly) → H p = none → H l = none → p ≠ l → Ext H H' → Q (.ref p) H'
theorem made_r {H H' : Hp} {x dx l C : Addr} {s : RSt} (nx : H x = none) (ndx : H dx = none) (ne : dx ≠ x) (hw : RAt K H' x l s) (hl : l = dx ∨ (upd (upd H dx (.own x)) x (.ins C dx [])) l = none) (o : Only' [x] (upd (upd H dx (.own x)) x (.ins C dx [])) H') :
    H l = none ∧ x ≠ l ∧ Ext H H' := by
  have e0 : Ext H (upd (upd H dx (.own x)) x (.ins C dx [])) := (Only'.put0 Only'.refl ndx).put0 nx
  refine ⟨?_, ?_, ?_⟩
  · rcases hl with h | h
    · rw [h]; exact ndx
    · exact (upd_none (upd_none h).2).2
  · rcases hl with h | h
    · rw [h]; exact ne.symm
    · exact (upd_none h).1.symm
  · refine ⟨fun b u hb _ => ?_, fun b u hb => ?_⟩
    · exact o b u (e0 b u hb (by simp)) (by simp; exact ne_of_none hb nx)
    · obtain ⟨u1, h1⟩ := e0.more b u hb
      exact o.more b u1 h1
theorem ok_reader_of (T : Tx K mg) : DefOk P w K mg base 3 (He.ga K "reader_of") ["layer"] (spReaderOf K) := by
  have D_AddReader : MakeOk P w K mg base 1 (He.ga K "AddReader") _ _ := ⟨_, mk_AddReader T, ok_AddReader_init T⟩
  have D_FrontReader : MakeOk P w K mg base 1 (He.ga K "FrontReader") _ _ := ⟨_, mk_FrontReader T, ok_FrontReader_init T⟩
  have D_EscapeReader : MakeOk P w K mg base 1 (He.ga K "EscapeReader") _ _ := ⟨_, mk_EscapeReader T, ok_EscapeReader_init T⟩
  have D_RunsReader : MakeOk P w K mg base 1 (He.ga K "RunsReader") _ _ := ⟨_, mk_RunsReader T, ok_RunsReader_init T⟩
  have D_ChunksReader : MakeOk P w K mg base 1 (He.ga K "ChunksReader") _ _ := ⟨_, mk_ChunksReader T, ok_ChunksReader_init T⟩
  have D_ChecksReader : MakeOk P w K mg base 1 (He.ga K "ChecksReader") _ _ := ⟨_, mk_ChecksReader T, ok_ChecksReader_init T⟩
  have D_SignsReader : MakeOk P w K mg base 1 (He.ga K "SignsReader") _ _ := ⟨_, mk_SignsReader T, ok_SignsReader_init T⟩
  refine def_ok (N := n_reader_of) (fn_reader_of T) sc_reader_of (fun _ _ _ _ _ _ us hl => match us, hl with | [_], _ => rfl) (fun vs H Q E h => ?_) (fun cdv A outer s H vs Q E hr h => ?_)
  · obtain ⟨t, ly, rfl, _⟩ := h
    rfl
  · obtain ⟨t, ly, rfl, ht, hok, q⟩ := h
    have hk : atI (layV ly) 0 = some (.str (lkind ly)) := ix_kind _ _
    refine ⟨_, [_], (pss_cons (ps_if (pt_cmpR op_eq (pe_ix ix_tup (pv 0) pe_int (fun _ _ => rfl)) pe_str (nomark _)) (pss_one (ps_ret (pe_mk D_AddReader (g_AddReader T) (hr.mono (by first | decide | omega)) (fun _ => passE) (pa_cons (pe_slice sl_tup (pv 0) (po_some pe_int) po_none) pa_nil)))) pss_nil)
      (pss_cons (ps_if (pt_cmpR op_eq (pe_ix ix_tup (pv 0) pe_int (fun _ _ => rfl)) pe_str (nomark _)) (pss_one (ps_ret (pe_mk0 D_FrontReader (g_FrontReader T) (hr.mono (by first | decide | omega)) (fun _ => passE)))) pss_nil)
      (pss_cons (ps_if (pt_cmpR op_eq (pe_ix ix_tup (pv 0) pe_int (fun _ _ => rfl)) pe_str (nomark _)) (pss_one (ps_ret (pe_mk D_EscapeReader (g_EscapeReader T) (hr.mono (by first | decide | omega)) (fun _ => passE) (pa_cons (pe_ix ix_tup (pv 0) pe_int (fun _ _ => rfl)) pa_nil)))) pss_nil)
      (pss_cons (ps_if (pt_cmpR op_eq (pe_ix ix_tup (pv 0) pe_int (fun _ _ => rfl)) pe_str (nomark _)) (pss_one (ps_ret (pe_mk0 D_RunsReader (g_RunsReader T) (hr.mono (by first | decide | omega)) (fun _ => passE)))) pss_nil)
      (pss_cons (ps_if (pt_cmpR op_eq (pe_ix ix_tup (pv 0) pe_int (fun _ _ => rfl)) pe_str (nomark _)) (pss_one (ps_ret (pe_mk D_ChunksReader (g_ChunksReader T) (hr.mono (by first | decide | omega)) (fun _ => passE) (pa_cons (pe_ix ix_tup (pv 0) pe_int (fun _ _ => rfl)) pa_nil)))) pss_nil)
      (pss_cons (ps_if (pt_cmpR op_eq (pe_ix ix_tup (pv 0) pe_int (fun _ _ => rfl)) pe_str (nomark _)) (pss_one (ps_ret (pe_mk D_ChecksReader (g_ChecksReader T) (hr.mono (by first | decide | omega)) (fun _ => passE) (pa_cons (pe_ix ix_tup (pv 0) pe_int (fun _ _ => rfl)) pa_nil)))) pss_nil)
      (pss_one (ps_ret (pe_mk0 D_SignsReader (g_SignsReader T) (hr.mono (by first | decide | omega)) (fun _ => passE)))))))))), rfl, ?_⟩
    try dsimp only [cxOf]
    wtm_at "x"
    refine x_ixT ht hk ?_
    wtm_at "x"
    refine ite_d (fun h0 => ?_) fun h0 => ?_
    · cases ly <;> first | exact absurd (show ("add" : Str) = _ from h0) (by decide +kernel) | exact absurd (show ("front" : Str) = _ from h0) (by decide +kernel) | exact absurd (show ("escape" : Str) = _ from h0) (by decide +kernel) | exact absurd (show ("runs" : Str) = _ from h0) (by decide +kernel) | exact absurd (show ("chunks" : Str) = _ from h0) (by decide +kernel) | exact absurd (show ("checks" : Str) = _ from h0) (by decide +kernel) | exact absurd (show ("signs" : Str) = _ from h0) (by decide +kernel) | skip
      rename_i key
      wtm_at "x"
      refine x_slT ht (by unfold layV; rw [rawV_len]; intro z; have := z.1; unfold HT.sIx at this; simp at this) fun t2 ht2 => ?_
      rw [show cutV (layV (Lay.add key)) (some 1) none = iV key from cut_from (k := 1) rfl]
      wtm_at "x"
      intro x dx nx ndx ne
      refine ⟨x, dx, [.ref t2], .add key 0, rfl, upd_same, by rw [upd_ne ne, upd_same], ⟨t2, key, rfl, rfl, ?_⟩, fun H' l hw hl o => ⟨rfl, ?_⟩⟩
      · exact SqT.ext ((Only'.put0 Only'.refl ndx).put0 nx) (SqT.of upd_same)
      · obtain ⟨m1, m2, m3⟩ := made_r nx ndx ne hw hl o
        exact q _ x l hw (upd_none nx).2 (upd_none m1).2 m2 ((Only'.put0 Only'.refl ht2).trans m3)
    · wtm_at "x"
      refine x_ixT ht hk ?_
      wtm_at "x"
      refine ite_d (fun h1 => ?_) fun h1 => ?_
      · cases ly <;> first | exact absurd (show ("add" : Str) = _ from h1) (by decide +kernel) | exact absurd (show ("front" : Str) = _ from h1) (by decide +kernel) | exact absurd (show ("escape" : Str) = _ from h1) (by decide +kernel) | exact absurd (show ("runs" : Str) = _ from h1) (by decide +kernel) | exact absurd (show ("chunks" : Str) = _ from h1) (by decide +kernel) | exact absurd (show ("checks" : Str) = _ from h1) (by decide +kernel) | exact absurd (show ("signs" : Str) = _ from h1) (by decide +kernel) | skip
        wtm_at "x"
        intro x dx nx ndx ne
        refine ⟨x, dx, [], .front range256, rfl, upd_same, by rw [upd_ne ne, upd_same], ⟨rfl, rfl⟩, fun H' l hw hl o => ⟨rfl, ?_⟩⟩
        obtain ⟨m1, m2, m3⟩ := made_r nx ndx ne hw hl o
        exact q _ x l hw nx m1 m2 m3
      · wtm_at "x"
        refine x_ixT ht hk ?_
        wtm_at "x"
        refine ite_d (fun h2 => ?_) fun h2 => ?_
        · cases ly <;> first | exact absurd (show ("add" : Str) = _ from h2) (by decide +kernel) | exact absurd (show ("front" : Str) = _ from h2) (by decide +kernel) | exact absurd (show ("escape" : Str) = _ from h2) (by decide +kernel) | exact absurd (show ("runs" : Str) = _ from h2) (by decide +kernel) | exact absurd (show ("chunks" : Str) = _ from h2) (by decide +kernel) | exact absurd (show ("checks" : Str) = _ from h2) (by decide +kernel) | exact absurd (show ("signs" : Str) = _ from h2) (by decide +kernel) | skip
          rename_i e
          wtm_at "x"
          refine x_ixT ht (ix_arg (k := "escape") (xs := [e]) rfl) ?_
          wtm_at "x"
          intro x dx nx ndx ne
          refine ⟨x, dx, [.int e], .esc e 0 false, rfl, upd_same, by rw [upd_ne ne, upd_same], ⟨e, rfl, rfl⟩, fun H' l hw hl o => ⟨rfl, ?_⟩⟩
          obtain ⟨m1, m2, m3⟩ := made_r nx ndx ne hw hl o
          exact q _ x l hw nx m1 m2 m3
        · wtm_at "x"
          refine x_ixT ht hk ?_
          wtm_at "x"
          refine ite_d (fun h3 => ?_) fun h3 => ?_
          · cases ly <;> first | exact absurd (show ("add" : Str) = _ from h3) (by decide +kernel) | exact absurd (show ("front" : Str) = _ from h3) (by decide +kernel) | exact absurd (show ("escape" : Str) = _ from h3) (by decide +kernel) | exact absurd (show ("runs" : Str) = _ from h3) (by decide +kernel) | exact absurd (show ("chunks" : Str) = _ from h3) (by decide +kernel) | exact absurd (show ("checks" : Str) = _ from h3) (by decide +kernel) | exact absurd (show ("signs" : Str) = _ from h3) (by decide +kernel) | skip
            wtm_at "x"
            intro x dx nx ndx ne
            refine ⟨x, dx, [], .runs 0 0 0 0, rfl, upd_same, by rw [upd_ne ne, upd_same], ⟨rfl, rfl⟩, fun H' l hw hl o => ⟨rfl, ?_⟩⟩
            obtain ⟨m1, m2, m3⟩ := made_r nx ndx ne hw hl o
            exact q _ x l hw nx m1 m2 m3
          · wtm_at "x"
            refine x_ixT ht hk ?_
            wtm_at "x"
            refine ite_d (fun h4 => ?_) fun h4 => ?_
            · cases ly <;> first | exact absurd (show ("add" : Str) = _ from h4) (by decide +kernel) | exact absurd (show ("front" : Str) = _ from h4) (by decide +kernel) | exact absurd (show ("escape" : Str) = _ from h4) (by decide +kernel) | exact absurd (show ("runs" : Str) = _ from h4) (by decide +kernel) | exact absurd (show ("chunks" : Str) = _ from h4) (by decide +kernel) | exact absurd (show ("checks" : Str) = _ from h4) (by decide +kernel) | exact absurd (show ("signs" : Str) = _ from h4) (by decide +kernel) | skip
              rename_i n
              wtm_at "x"
              refine x_ixT ht (ix_arg (k := "chunks") (xs := [n]) rfl) ?_
              wtm_at "x"
              intro x dx nx ndx ne
              refine ⟨x, dx, [.int n], .chunks n 0 0 false, rfl, upd_same, by rw [upd_ne ne, upd_same], ⟨n, rfl, rfl⟩, fun H' l hw hl o => ⟨rfl, ?_⟩⟩
              obtain ⟨m1, m2, m3⟩ := made_r nx ndx ne hw hl o
              exact q _ x l hw nx m1 m2 m3
            · wtm_at "x"
              refine x_ixT ht hk ?_
              wtm_at "x"
              refine ite_d (fun h5 => ?_) fun h5 => ?_
              · cases ly <;> first | exact absurd (show ("add" : Str) = _ from h5) (by decide +kernel) | exact absurd (show ("front" : Str) = _ from h5) (by decide +kernel) | exact absurd (show ("escape" : Str) = _ from h5) (by decide +kernel) | exact absurd (show ("runs" : Str) = _ from h5) (by decide +kernel) | exact absurd (show ("chunks" : Str) = _ from h5) (by decide +kernel) | exact absurd (show ("checks" : Str) = _ from h5) (by decide +kernel) | exact absurd (show ("signs" : Str) = _ from h5) (by decide +kernel) | skip
                rename_i n
                wtm_at "x"
                refine x_ixT ht (ix_arg (k := "checks") (xs := [n]) rfl) ?_
                wtm_at "x"
                intro x dx nx ndx ne
                refine ⟨x, dx, [.int n], .checks n 0 0 [], rfl, upd_same, by rw [upd_ne ne, upd_same], ⟨n, rfl, rfl⟩, fun H' l hw hl o => ⟨rfl, ?_⟩⟩
                obtain ⟨m1, m2, m3⟩ := made_r nx ndx ne hw hl o
                exact q _ x l hw nx m1 m2 m3
              · cases ly <;> first | exact absurd rfl h0 | exact absurd rfl h1 | exact absurd rfl h2 | exact absurd rfl h3 | exact absurd rfl h4 | exact absurd rfl h5 | skip
                wtm_at "x"
                intro x dx nx ndx ne
                refine ⟨x, dx, [], .signs 0 0 0, rfl, upd_same, by rw [upd_ne ne, upd_same], ⟨rfl, rfl⟩, fun H' l hw hl o => ⟨rfl, ?_⟩⟩
                obtain ⟨m1, m2, m3⟩ := made_r nx ndx ne hw hl o
                exact q _ x l hw nx m1 m2 m3
end
end Flow

namespace Flow
open PySem PySem.Spec PyProof.Rows L2
section
variable {S : Type} {A : Hp → Addr → Addr → S → Prop} {X : List Addr} {H H1 H2 : Hp} {ps ps2 : List (Addr × Addr)} {ss ss2 : List S} {p l : Addr} {s : S}
theorem Good.tail (g : Good A H ((p, l) :: ps) (s :: ss)) : Good A H ps ss ∧ p ∉ flat ps ∧ l ∉ flat ps ∧ p ≠ l := by
  have nd : (p :: l :: flat ps).Nodup := g.nd
  have h1 := List.nodup_cons.mp nd
  have h2 := List.nodup_cons.mp h1.2
  refine ⟨⟨by simpa using g.len, fun i q m t a b => g.at_ (i + 1) q m t a b, h2.2⟩, fun z => h1.1 (List.mem_cons_of_mem _ z), h2.1, fun z => h1.1 (by rw [z]; exact List.mem_cons_self ..)⟩
theorem Step.cons (P : PartsP A) (g : Good A H1 ((p, l) :: ps) (s :: ss)) (st : Step A X H1 ps ss H2 ps2 ss2) (hp : p ∉ X) (hl : l ∉ X) : Step A X H1 ((p, l) :: ps) (s :: ss) H2 ((p, l) :: ps2) (s :: ss2) := by
  obtain ⟨gt, np, nl, ne⟩ := g.tail
  have h0 := g.at_ 0 p l s rfl rfl
  obtain ⟨⟨o1, e1⟩, ⟨o2, e2⟩⟩ := P.trk _ _ _ _ h0
  have np2 : p ∉ flat ps2 := fun z => by
    rcases st.old p z with y | y
    · exact np y
    · rw [e1] at y; cases y
  have nl2 : l ∉ flat ps2 := fun z => by
    rcases st.old l z with y | y
    · exact nl y
    · rw [e2] at y; cases y
  refine ⟨⟨by rw [List.length_cons, List.length_cons, st.good.len], fun i q m t a b => ?_, ?_⟩, ?_, fun x hx => ?_, ?_⟩
  · cases i with
    | zero =>
      have e3 := Option.some.inj a
      injection e3 with e4 e5
      have e6 : s = t := Option.some.inj b
      subst e4 e5 e6
      exact P.keep H1 H2 p l s h0 (fun u hu => st.only p u hu (by simp [hp, np])) (fun u hu => st.only l u hu (by simp [hl, nl]))
    | succ i => exact st.good.at_ i q m t a b
  · show (p :: l :: flat ps2).Nodup
    refine List.nodup_cons.mpr ⟨fun z => ?_, List.nodup_cons.mpr ⟨nl2, st.good.nd⟩⟩
    rcases List.mem_cons.mp z with z | z
    · exact ne z
    · exact np2 z
  · rw [List.map_cons, List.map_cons, st.fst]
  · have hx' : x ∈ p :: l :: flat ps2 := hx
    rcases List.mem_cons.mp hx' with z | z
    · exact Or.inl (by rw [z]; exact List.mem_cons_self ..)
    · rcases List.mem_cons.mp z with z | z
      · exact Or.inl (by rw [z]; exact List.mem_cons_of_mem _ (List.mem_cons_self ..))
      · rcases st.old x z with y | y
        · exact Or.inl (List.mem_cons_of_mem _ (List.mem_cons_of_mem _ y))
        · exact Or.inr y
  · refine st.only.mono fun a ha => ?_
    rcases List.mem_append.mp ha with z | z
    · exact List.mem_append_left _ z
    · exact List.mem_append_right _ (List.mem_cons_of_mem _ (List.mem_cons_of_mem _ z))
end
def faultV : Fault → List V
  | .wrong at_ place => [.str "wrong", .int at_, .int place]
  | .cut at_ => [.str "cut", .int at_]
def spOne (K : PySem.W.Frag) (n : Nat) : Sp := fun vs H Q _ => ∃ (p c dx : Addr) (rest : List V) (ps : List (Addr × Addr)) (ss : List RSt) (b : Int), vs = [.ref p, .int ((n : Int) - 1), .int b] ∧
  H p = some (.ins (He.ga K "Reader") dx [("parts", .ref c), ("fault", .non)]) ∧ H c = some (.lst (pV ps.reverse ++ rest)) ∧ Good (RAt K) H ps ss ∧ ps.length = n ∧ p ∉ flat ps ∧ c ∉ flat ps ∧ ROks ss ∧ By b ∧ (rone n ss b).1.length ≤ 16777216 ∧
  ((rone n ss b).2.2 = none → ∀ (H' : Hp) (r : Addr) (ps' : List (Addr × Addr)), Step (RAt K) [] H ps ss H' ps' (rone n ss b).2.1 → H' r = some (.lst (iV (rone n ss b).1)) → H r = none → r ∉ flat ps' → Q (.ref r) H') ∧
  (∀ f, (rone n ss b).2.2 = some f → ∀ (H' : Hp) (r t : Addr), H' p = some (.ins (He.ga K "Reader") dx [("parts", .ref c), ("fault", .ref t)]) → H' t = some (.tup (faultV f)) → H t = none → H r = none → H' r = some (.lst (iV (rone n ss b).1)) → Only' (p :: flat ps) H H' → Q (.ref r) H')
theorem def_none {P : Program} {w : World} {K : PySem.W.Frag} {mg : Str → Option Value} {base : Heap} {k : Nat} {f : Addr} {ps : List Str} {x qual : Str} {st : Stmt} (F : ∃ fd, FunD K x qual (defArgs st) (defBody st) (defScope st) [] [] f fd)
    (hb : ∀ (kV doc pm : Value) (an : Option Addr) (cdv ct : Value) (us : List Value), us.length = ps.length → bindArgs (PySem.W.fnOf x qual (defArgs st) (defBody st) (defScope st) .none kV doc pm an cdv ct) ⟨us, []⟩ = pure (ps.zip us)) :
    DefOk P w K mg base k f ps (fun _ _ _ _ => False) := by
  obtain ⟨fd, F⟩ := F
  exact ⟨⟨fd, ⟨fun _ _ _ _ h => h.elim, fun _ _ _ _ _ _ _ _ _ _ _ _ _ h => h.elim⟩, F.bindsN hb⟩, F.kp⟩
section
variable {P : Program} {w : World} {K : PySem.W.Frag} {mg : Str → Option Value} {base : Heap}
theorem none_Reader_one (T : Tx K mg) (k : Nat) : DefOk P w K mg base k (He.ma K (He.ga K "Reader") "one") ["self", "at", "byte"] (fun _ _ _ _ => False) := def_none (fn_Reader_one T) fun _ _ _ _ _ _ us hl => match us, hl with | [_, _, _], _ => rfl
theorem ok_Reader_one0 (T : Tx K mg) : DefOk P w K mg base 6 (He.ma K (He.ga K "Reader") "one") ["self", "at", "byte"] (spOne K 0) := by
  have M_Reader_one := meth1 (cl_Reader T) (me_Reader_one T) (none_Reader_one (P := P) (w := w) (base := base) T 5)
  refine def_ok (N := n_Reader_one) (fn_Reader_one T) sc_Reader_one (fun _ _ _ _ _ _ us hl => match us, hl with | [_, _, _], _ => rfl) (fun vs H Q E h => ?_) (fun cdv A outer s H vs Q E hr h => ?_)
  · obtain ⟨p, c, dx, rest, ps, ss, b, rfl, _⟩ := h
    rfl
  · obtain ⟨p, c, dx, rest, ps, ss, b, rfl, hp, hc, hg, hn, np, nc, hk, hb, hz, q, qf⟩ := h
    refine drv_go (σ0 := [_, _, _, _, _, _, _]) ?_
    refine drv_cons (ps_if (pt_cmpR op_lt (pv 1) pe_int (nomark _)) (pss_one (ps_ret (pe_lst (pa_cons (pv 2) pa_nil)))) pss_nil) ?_
    apply drv_cons (ps_try0 (tb := fun W => tAsg (tMu P w K mg base 5 "take" ["self", "byte"] (fun σ cls d H2 => W cls d σ H2) (tOp (rIxL K) (tFld K (tVar 0) "parts") (tVar 1)) (tCons (tVar 2) tNil)) (gName 3)) rfl rfl takes0 ?hh ?hb)
    case hh => exact (Clauses.named (i := 4) (ts := fun a cls d => tSeq (sFld K (tVar 0) (tTup (tCons (tC (.str "wrong")) (tCons (tVar 1) (tCons (tXf a cls d (He.ga K "Wrong") "place" (tVar 4)) tNil)))) "fault") (tRet (tLst tNil))) sc_Reader_one.nd rfl rfl ⟨rfl, by decide, .inl (g_Wrong T)⟩ (fun a oe cls d pn hz hf => (pss_cons (ps_fld (pv 0) (pe_tup (pa_cons pe_str (pa_cons (pv 1) (pa_cons (pe_xf (xf_Wrong T) (no_Wrong_place T) hz hf (pv 4)) pa_nil)))) rfl)
      (pss_one (ps_ret (pe_lst pa_nil))))) Clauses.nil)
    case hb => exact fun W pn xe tk po => (pss_one (ps_set (i := 3) sc_Reader_one.nd rfl (Or.inl rfl) (pe_mu 5 ["self", "byte"] (hr.mono (by first | decide | omega)) (fun σ => passAt tk σ) (pe_ix ix_list (pe_fld (pv 0) rfl) (pv 1) (fun _ _ => rfl)) (pa_cons (pv 2) pa_nil))))
    refine drv_end (pss_cons (ps_set (i := 5) sc_Reader_one.nd rfl (Or.inl rfl) (pe_lst pa_nil))
      (pss_cons (ps_for (passes_of rfl) rfl (pi_list (pv 3)) (pg_name (i := 6) sc_Reader_one.nd rfl (Or.inl rfl)) (pss_one (ps_if (pt_cmpR op_isNS (pe_fld (pv 0) rfl) pe_non (nomark _)) (pss_one (ps_expr (pe_bm PySem.F.plainAttrs_list PySem.F.slot_list_extend PySem.F.type_list_extend mt_extend (pv 5) (pa_cons (pe_mm M_Reader_one (hr.mono (by first | decide | omega)) (fun _ => passE) (pv 0) (pa_cons (pe_op op_sub (pv 1) pe_int) (pa_cons (pv 6) pa_nil))) pa_nil)))) pss_nil)))
      (pss_one (ps_ret (pv 5))))) ?_
    try dsimp only [cxOf]
    wtm_at "x"
    refine ite_d (fun _ => ?_) fun z => absurd (by decide) z
    wtm_at "x"
    intro r hr
    refine q rfl _ r ps ((Step.refl hg).new (RAt_parts K) hr) upd_same hr fun z => ?_
    obtain ⟨o, e⟩ := hg.trk (RAt_parts K) z
    rw [hr] at e
    cases e
end
end Flow

namespace Flow
open PySem PySem.Spec PyProof.Rows L2
section
variable {P : Program} {w : World} {K : PySem.W.Frag} {mg : Str → Option Value} {base : Heap}
theorem ok_Reader_one_more (T : Tx K mg) (n : Nat) (ih : DefOk P w K mg base (6 + n) (He.ma K (He.ga K "Reader") "one") ["self", "at", "byte"] (spOne K n)) : DefOk P w K mg base (6 + n + 1) (He.ma K (He.ga K "Reader") "one") ["self", "at", "byte"] (spOne K (n + 1)) := by
  have M_Reader_one := meth1 (cl_Reader T) (me_Reader_one T) ih
  refine def_ok (N := n_Reader_one) (fn_Reader_one T) sc_Reader_one (fun _ _ _ _ _ _ us hl => match us, hl with | [_, _, _], _ => rfl) (fun vs H Q E h => ?_) (fun cdv A outer s H vs Q E hr h => ?_)
  · obtain ⟨p, c, dx, rest, ps, ss, b, rfl, _⟩ := h
    rfl
  · obtain ⟨p, c, dx, rest, ps, ss, b, rfl, hp, hc, hg, hn, np, nc, hk, hb, hz, q, qf⟩ := h
    have PP := RAt_parts K
    cases ps with
    | nil => simp at hn
    | cons pl ps =>
    cases ss with
    | nil =>
      have := hg.len
      simp at this
    | cons s0 ss =>
    obtain ⟨p0, l0⟩ := pl
    obtain ⟨gt, np0, nl0, ne0⟩ := hg.tail
    have hw : RAt K H p0 l0 s0 := hg.at_ 0 p0 l0 s0 rfl rfl
    have hn' : ps.length = n := by simpa using hn
    have np' : p ≠ p0 ∧ p ≠ l0 ∧ p ∉ flat ps := by
      have : p ∉ p0 :: l0 :: flat ps := np
      simpa using this
    have nc' : c ≠ p0 ∧ c ≠ l0 ∧ c ∉ flat ps := by
      have : c ∉ p0 :: l0 :: flat ps := nc
      simpa using this
    have en : (((n + 1 : Nat) : Int) - 1) = (n : Int) := by omega
    rw [en]
    have hk0 : ROk s0 := hk s0 (List.mem_cons_self ..)
    have hkt : ROks ss := fun x hx => hk x (List.mem_cons_of_mem _ hx)
    refine drv_go (σ0 := [_, _, _, _, _, _, _]) ?_
    refine drv_cons (ps_if (pt_cmpR op_lt (pv 1) pe_int (nomark _)) (pss_one (ps_ret (pe_lst (pa_cons (pv 2) pa_nil)))) pss_nil) ?_
    apply drv_cons (ps_try0 (tb := fun W => tAsg (tMu P w K mg base 5 "take" ["self", "byte"] (fun σ cls d H2 => W cls d σ H2) (tOp (rIxL K) (tFld K (tVar 0) "parts") (tVar 1)) (tCons (tVar 2) tNil)) (gName 3)) rfl rfl takes0 ?hh ?hb)
    case hh => exact (Clauses.named (i := 4) (ts := fun a cls d => tSeq (sFld K (tVar 0) (tTup (tCons (tC (.str "wrong")) (tCons (tVar 1) (tCons (tXf a cls d (He.ga K "Wrong") "place" (tVar 4)) tNil)))) "fault") (tRet (tLst tNil))) sc_Reader_one.nd rfl rfl ⟨rfl, by decide, .inl (g_Wrong T)⟩ (fun a oe cls d pn hz hf => (pss_cons (ps_fld (pv 0) (pe_tup (pa_cons pe_str (pa_cons (pv 1) (pa_cons (pe_xf (xf_Wrong T) (no_Wrong_place T) hz hf (pv 4)) pa_nil)))) rfl)
      (pss_one (ps_ret (pe_lst pa_nil))))) Clauses.nil)
    case hb => exact fun W pn xe tk po => (pss_one (ps_set (i := 3) sc_Reader_one.nd rfl (Or.inl rfl) (pe_mu 5 ["self", "byte"] (hr.mono (by first | decide | omega)) (fun σ => passAt tk σ) (pe_ix ix_list (pe_fld (pv 0) rfl) (pv 1) (fun _ _ => rfl)) (pa_cons (pv 2) pa_nil))))
    refine drv_end (pss_cons (ps_set (i := 5) sc_Reader_one.nd rfl (Or.inl rfl) (pe_lst pa_nil))
      (pss_cons (ps_for (passes_of rfl) rfl (pi_list (pv 3)) (pg_name (i := 6) sc_Reader_one.nd rfl (Or.inl rfl)) (pss_one (ps_if (pt_cmpR op_isNS (pe_fld (pv 0) rfl) pe_non (nomark _)) (pss_one (ps_expr (pe_bm PySem.F.plainAttrs_list PySem.F.slot_list_extend PySem.F.type_list_extend mt_extend (pv 5) (pa_cons (pe_mm M_Reader_one (hr.mono (by first | decide | omega)) (fun _ => passE) (pv 0) (pa_cons (pe_op op_sub (pv 1) pe_int) (pa_cons (pv 6) pa_nil))) pa_nil)))) pss_nil)))
      (pss_one (ps_ret (pv 5))))) ?_
    try dsimp only [cxOf]
    wtm_at "x"
    refine ite_d (fun z => absurd z (by omega)) fun _ => ?_
    wtm_at "x"
    unfold tTryE
    dsimp only
    wtm_at "x"
    have hix : (pV ((p0, l0) :: ps).reverse ++ rest)[n]? = some (.ref p0) := by
      rw [List.reverse_cons]
      unfold pV
      rw [List.map_append, List.append_assoc, List.getElem?_append_right (by rw [List.length_map, List.length_reverse, hn']; exact Nat.le_refl _), List.length_map, List.length_reverse, hn', Nat.sub_self]
      rfl
    refine x_ixL (SqL.of hc) (at_of rfl hix) ?_
    wtm_at "x"
    refine x_rtake T hw hk0 hb (fun R k => by wtm_at "x"; exact k) (fun row s' er H1 l' r hw' hl' hr0 hr' ho => ?_) (fun place er H1 d ho hd hx => ?_)
    · have e1 : rone (n + 1) (s0 :: ss) b = ((rseq (rone n) ss row).1, s' :: (rseq (rone n) ss row).2.1, (rseq (rone n) ss row).2.2) := by rw [rone_more, er]
      rw [e1] at q qf hz
      obtain ⟨k1, by1⟩ := rtake_ok hk0 hb er
      have st1 : Step (RAt K) [] H ((p0, l0) :: ps) (s0 :: ss) H1 ((p0, l') :: ps) (s' :: ss) := Step.one (i := 0) PP hg rfl rfl hw' hl' ho
      obtain ⟨gt1, np1, nl1, ne1⟩ := st1.good.tail
      have hp1 := ho p _ hp (by simp [np'])
      have hc1 := ho c _ hc (by simp [nc'])
      have nrp : r ≠ p := (ne_of_none hp hr0).symm
      have nrf : r ∉ flat ps := fun z => by
        obtain ⟨o, e⟩ := gt.trk PP z
        rw [hr0] at e
        cases e
      wtm_at "x"
      intro f hf
      have nfp : f ≠ p := (ne_of_none hp1 hf).symm
      have nfr : f ≠ r := (ne_of_none hr' hf).symm
      have nff : f ∉ flat ps := fun z => by
        obtain ⟨o, e⟩ := gt1.trk PP z
        rw [hf] at e
        cases e
      wtm_at "x"
      have e2 : Ext H1 (upd H1 f (.lst [])) := Only'.put0 Only'.refl hf
      have hf2 : (upd H1 f (.lst [])) f = some (.lst []) := upd_same
      generalize (upd H1 f (.lst [])) = H2 at *
      have hr2 := e2 r _ hr' (by simp)
      have hp2 := e2 p _ hp1 (by simp)
      have hc2 := e2 c _ hc1 (by simp)
      have gt2 : Good (RAt K) H2 ps ss := gt1.ext PP e2 fun _ _ z => nomatch z
      refine x_rForL (SqL.of hr2) (fun i σ Hi => (∃ v6, σ = [some (.ref p), some (.int (n : Int)), some (.int b), some (.ref r), none, some (.ref f), v6]) ∧
          ((∃ (psi : List (Addr × Addr)) (ssi : List RSt) (outi : Row), Step (RAt K) [f] H2 ps ss Hi psi ssi ∧ Hi f = some (.lst (iV outi)) ∧ ROks ssi ∧ (outi ++ (rseq (rone n) ssi (row.drop i)).1, (rseq (rone n) ssi (row.drop i)).2) = rseq (rone n) ss row) ∨
            ∃ (flt : Fault) (t : Addr), (rseq (rone n) ss row).2.2 = some flt ∧ Hi p = some (.ins (He.ga K "Reader") dx [("parts", .ref c), ("fault", .ref t)]) ∧ Hi t = some (.tup (faultV flt)) ∧ H2 t = none ∧ Hi f = some (.lst (iV (rseq (rone n) ss row).1)) ∧ Only' (p :: f :: flat ps) H2 Hi))
        ⟨⟨_, rfl⟩, Or.inl ⟨ps, ss, [], Step.refl gt2, hf2, hkt, rfl⟩⟩ ?_ ?_ ?_
      · rintro i σ Hi _ ⟨_, h | ⟨flt, t, _, _, _, _, _, o⟩⟩
        · obtain ⟨psi, ssi, outi, st, _⟩ := h
          exact SqL.of (st.only r _ hr2 (by simp [nfr.symm, nrf]))
        · exact SqL.of (o r _ hr2 (by simp [nrp, nfr.symm, nrf]))
      · rintro i x σ Hi hi ⟨⟨v6, rfl⟩, h | ⟨flt, t, hflt, hpi, hti, ht0, hfi, o⟩⟩
        · obtain ⟨psi, ssi, outi, st, hfi, hki, eo⟩ := h
          obtain ⟨z, hz1, rfl⟩ := iV_get hi
          have hbz : By z := by1 z (List.mem_of_getElem? hz1)
          have hpi := st.only p _ hp2 (by simp [nfp.symm, np'])
          have hci := st.only c _ hc2 (by
            have : c ≠ f := ne_of_none hc1 hf
            simp [this, nc'])
          have nfi : f ∉ flat psi := st.out hf2 nff
          have npi : p ∉ flat psi := st.out hp2 np'.2.2
          have nci : c ∉ flat psi := st.out hc2 nc'.2.2
          rw [drop_more hz1, rseq_cons] at eo
          have hci' : Hi c = some (.lst (pV psi.reverse ++ (V.ref p0 :: rest))) := by
            rw [hci, pV_fst (ps := ps.reverse) (ps' := psi.reverse) (by rw [List.map_reverse, List.map_reverse, st.fst])]
            unfold pV
            simp
          have hlen : (rone n ssi z).1.length ≤ 16777216 ∧ outi.length + (rone n ssi z).1.length ≤ 16777216 := by
            have hz2 : (rseq (rone n) ss row).1.length ≤ 16777216 := hz
            rw [← eo] at hz2
            cases hro : rone n ssi z with
            | mk o1 r1 =>
              obtain ⟨ss1, fl⟩ := r1
              rw [hro] at hz2
              cases fl <;> simp only [List.length_append] at hz2 <;> exact ⟨by dsimp only; omega, by dsimp only; omega⟩
          wtm_at "x"
          refine ite_d (fun _ => ?_) fun hne => absurd rfl hne
          wtm_at "x"
          refine ⟨p, c, dx, _, psi, ssi, z, rfl, hpi, hci', st.good, by rw [st.len]; exact hn', npi, nci, hki, hbz, hlen.1, fun hno H3 r3 ps3 st3 hr3 hr30 nr3 => ?_, fun flt hflt H3 r3 t3 hp3 ht3 ht30 hr30 hr3 o3 => ?_⟩
          · have hf3 : H3 f = some (.lst (iV outi)) := st3.only f _ hfi (by simpa using nfi)
            refine x_nil ?_
            refine x_extend hf3 hr3 (by rw [iV_length, iV_length, sizeLine_eq]; exact hlen.2) ?_
            have st4 : Step (RAt K) [f] H2 ps ss H3 ps3 (rone n ssi z).2.1 := st.trans (st3.wide fun x hx => nomatch hx)
            refine ⟨⟨_, rfl⟩, Or.inl ⟨ps3, (rone n ssi z).2.1, outi ++ (rone n ssi z).1, st4.put PP (by simp) (st4.out hf2 nff), by rw [upd_same, iV_append], (rone_oks n ssi z hki hbz).1, ?_⟩⟩
            rw [← eo]
            generalize rone n ssi z = o at hno ⊢
            obtain ⟨o1, ss1, fl⟩ := o
            have hno' : fl = none := hno
            subst hno'
            dsimp only
            rw [List.append_assoc]
          · have nfp3 : f ∉ flat psi := nfi
            have hf3 : H3 f = some (.lst (iV outi)) := o3 f _ hfi (by simp [nfp, nfi])
            refine x_nil ?_
            refine x_extend hf3 hr3 (by rw [iV_length, iV_length, sizeLine_eq]; exact hlen.2) ?_
            have et : t3 ≠ f := (ne_of_none hfi ht30).symm
            have eo3 : (rseq (rone n) ss row).2.2 = some flt ∧ (rseq (rone n) ss row).1 = outi ++ (rone n ssi z).1 := by
              rw [← eo]
              generalize rone n ssi z = o at hflt ⊢
              obtain ⟨o1, ss1, fl⟩ := o
              have hfl' : fl = some flt := hflt
              subst hfl'
              exact ⟨rfl, rfl⟩
            refine ⟨⟨_, rfl⟩, Or.inr ⟨flt, t3, eo3.1, upd_get nfp.symm hp3, upd_get et ht3, st.only.free ht30, by rw [upd_same, eo3.2, iV_append], ⟨fun y u hy hn2 => ?_, fun y u hy => ?_⟩⟩⟩
            · have hn3 : y ≠ p ∧ y ≠ f ∧ y ∉ flat ps := by simpa using hn2
              have y1 := st.only y u hy (by simp [hn3])
              refine upd_get hn3.2.1 (o3 y u y1 ?_)
              have : y ∉ flat psi := st.out hy hn3.2.2
              simp [hn3, this]
            · obtain ⟨u1, y1⟩ := st.only.more y u hy
              obtain ⟨u2, y2⟩ := o3.more y u1 y1
              exact upd_more y2
        · wtm_at "x"
          exact ⟨⟨_, rfl⟩, Or.inr ⟨flt, t, hflt, hpi, hti, ht0, hfi, o⟩⟩
      · rintro σ Hi ⟨⟨v6, rfl⟩, h | ⟨flt, t, hflt, hpi, hti, ht0, hfi, o⟩⟩
        · obtain ⟨psi, ssi, outi, st, hfi, hki, eo⟩ := h
          rw [iV_length, List.drop_length] at eo
          have eo2 : (outi, ssi, none) = rseq (rone n) ss row := by
            rw [← eo]
            show _ = (outi ++ [], _, _)
            rw [List.append_nil]
          wtm_at "x"
          rw [← eo2] at q
          have stp : Step (RAt K) [] H1 ps ss Hi psi ssi := st.pre e2 fun x hx => Or.inr (by rw [List.mem_singleton.mp hx]; exact hf)
          refine q rfl Hi f ((p0, l') :: psi) (st1.trans (Step.cons PP st1.good stp (fun z => nomatch z) (fun z => nomatch z))) hfi (ho.free hf) ?_
          obtain ⟨⟨o1, t1⟩, ⟨o2, t2⟩⟩ := PP.trk _ _ _ _ hw'
          have m1 : f ≠ p0 := (ne_of_none t1 hf).symm
          have m2 : f ≠ l' := (ne_of_none t2 hf).symm
          show f ∉ p0 :: l' :: flat psi
          simp [m1, m2, st.out hf2 nff]
        · wtm_at "x"
          refine qf flt hflt Hi f t hpi hti (ho.free (e2.free ht0)) (ho.free hf) hfi ⟨fun y u hy hn2 => ?_, fun y u hy => ?_⟩
          · have hn3 : y ≠ p ∧ y ≠ p0 ∧ y ≠ l0 ∧ y ∉ flat ps := by
              have : y ∉ p :: p0 :: l0 :: flat ps := hn2
              simpa using this
            have y1 := ho y u hy (by simp [hn3])
            exact o y u (e2 y u y1 (by simp)) (by simp [hn3, ne_of_none y1 hf])
          · obtain ⟨u1, y1⟩ := ho.more y u hy
            obtain ⟨u2, y2⟩ := e2.more y u1 y1
            exact o.more y u2 y2
    · have e1 : rone (n + 1) (s0 :: ss) b = ([], s0 :: ss, some (.wrong (n : Int) place)) := by rw [rone_more, er]
      have hp1 := ho p _ hp (by simp [np'])
      refine ⟨true, xm_Wrong_Wrong T, fun _ a ha => ?_, fun z => nomatch z⟩
      wtm_at "x"
      refine ⟨_, rfl, rfl, rfl, d, _, _, rfl, hx, rfl, ?_⟩
      wtm_at "x"
      intro t ht
      wtm_at "x"
      intro r hr
      obtain ⟨n1, hr⟩ := upd_none hr
      obtain ⟨n2, hr1⟩ := upd_none hr
      rw [e1] at qf
      have nt : t ≠ p := (ne_of_none hp1 ht).symm
      refine qf (.wrong (n : Int) place) rfl _ r t (by wtm_at "h") (upd_get (Ne.symm n2) (upd_get nt upd_same)) (ho.free ht) (ho.free hr1) upd_same ?_
      exact (((ho.mono (by simp [flat])).put0 (ho.free ht)).put (by simp)).put0 (ho.free hr1)
theorem ok_Reader_one (T : Tx K mg) : ∀ n : Nat, DefOk P w K mg base (6 + n) (He.ma K (He.ga K "Reader") "one") ["self", "at", "byte"] (spOne K n)
  | 0 => ok_Reader_one0 T
  | n + 1 => ok_Reader_one_more T n (ok_Reader_one T n)
end
end Flow

namespace Flow
open PySem PySem.Spec PyProof.Rows L2
theorem flat_rev : ∀ {ps : List (Addr × Addr)} {x : Addr}, x ∈ flat ps.reverse ↔ x ∈ flat ps
  | [], x => Iff.rfl
  | y :: r, x => by
    rw [List.reverse_cons, flat_app, List.mem_append, flat_rev (ps := r)]
    show x ∈ flat r ∨ x ∈ [y.1, y.2] ↔ x ∈ y.1 :: y.2 :: flat r
    simp only [List.mem_cons, List.not_mem_nil, or_false]
    constructor
    · rintro (h | h | h)
      · exact Or.inr (Or.inr h)
      · exact Or.inl h
      · exact Or.inr (Or.inl h)
    · rintro (h | h | h)
      · exact Or.inr (Or.inl h)
      · exact Or.inr (Or.inr h)
      · exact Or.inl h
theorem flat_rev_nd : ∀ {ps : List (Addr × Addr)}, (flat ps).Nodup → (flat ps.reverse).Nodup
  | [], _ => List.nodup_nil
  | y :: r, h => by
    have h0 : (y.1 :: y.2 :: flat r).Nodup := h
    have h1 := List.nodup_cons.mp h0
    have h2 := List.nodup_cons.mp h1.2
    rw [List.reverse_cons, flat_app]
    refine List.nodup_append.mpr ⟨flat_rev_nd h2.2, ?_, fun a ha b hb e => ?_⟩
    · show [y.1, y.2].Nodup
      simp only [List.nodup_cons, List.not_mem_nil, not_false_eq_true, List.nodup_nil, and_true, List.mem_singleton]
      exact fun z => h1.1 (by rw [z]; exact List.mem_cons_self ..)
    · subst e
      have ha' := flat_rev.mp ha
      have hb' : a ∈ [y.1, y.2] := hb
      rcases List.mem_cons.mp hb' with z | z
      · exact h1.1 (List.mem_cons_of_mem _ (z ▸ ha'))
      · exact h2.1 ((List.mem_singleton.mp z) ▸ ha')
theorem Good.rev {S : Type} {A : Hp → Addr → Addr → S → Prop} {H : Hp} {ps : List (Addr × Addr)} {ss : List S} (g : Good A H ps ss) : Good A H ps.reverse ss.reverse := by
  refine ⟨by rw [List.length_reverse, List.length_reverse, g.len], fun i p l s h1 h2 => ?_, flat_rev_nd g.nd⟩
  have hi : i < ps.length := by
    have := (List.getElem?_eq_some_iff.mp h1).1
    rwa [List.length_reverse] at this
  rw [List.getElem?_reverse hi] at h1
  rw [List.getElem?_reverse (by rw [← g.len]; exact hi), ← g.len] at h2
  exact g.at_ _ p l s h1 h2
/-- a Reader at p, no fault so far; its parts, the outermost first -/
structure ReaderAt (K : PySem.W.Frag) (H : Hp) (p c dx : Addr) (ps : List (Addr × Addr)) (ss : List RSt) : Prop where
  ob : H p = some (.ins (He.ga K "Reader") dx [("parts", .ref c), ("fault", .non)])
  cl : H c = some (.lst (pV ps.reverse))
  good : Good (RAt K) H ps ss
  np : p ∉ flat ps
  nc : c ∉ flat ps
  ok : ROks ss
  few : ps.length ≤ 8
/-- a Reader with a fault, told at t -/
structure ReaderFl (K : PySem.W.Frag) (H : Hp) (p c dx t : Addr) (flt : Fault) : Prop where
  ob : H p = some (.ins (He.ga K "Reader") dx [("parts", .ref c), ("fault", .ref t)])
  fl : H t = some (.tup (faultV flt))
def spReaderInit (K : PySem.W.Frag) : Sp := fun vs H Q E => ∃ (p dx a : Addr) (ls : List (Str × Row)), vs = [.ref p, .ref a] ∧ H p = some (.ins (He.ga K "Reader") dx []) ∧ H dx = some (.own p) ∧ Handed K H a ls ∧
  (∀ lays : List Lay, ls = lays.map rawOf → (∀ ly, ly ∈ lays → ly.Ok) → lays.length ≤ 8 → ∀ (H' : Hp) (c : Addr) (ps : List (Addr × Addr)), ReaderAt K H' p c dx ps (lays.reverse.map newR) → H c = none → (∀ x, x ∈ flat ps → H x = none) → Only' [p] H H' → Q .non H') ∧
  (goodAll ls = false → ∀ H', Ext H H' → E (.ref (He.ga K "BadLayer")) none H')
section
variable {P : Program} {w : World} {K : PySem.W.Frag} {mg : Str → Option Value} {base : Heap}
theorem ok_Reader_init (T : Tx K mg) : DefOk P w K mg base 4 (He.ma K (He.ga K "Reader") "__init__") ["self", "layers"] (spReaderInit K) := by
  have D_look_layers := ok_look_layers (P := P) (w := w) (base := base) T
  have D_reader_of := ok_reader_of (P := P) (w := w) (base := base) T
  refine def_ok (N := n_Reader_init) (fn_Reader_init T) sc_Reader_init (fun _ _ _ _ _ _ us hl => match us, hl with | [_, _], _ => rfl) (fun vs H Q E h => ?_) (fun cdv A outer s H vs Q E hr h => ?_)
  · obtain ⟨p, dx, a, ls, rfl, _⟩ := h
    rfl
  · obtain ⟨p, dx, a, ls, rfl, hp, hd, ⟨ts, ha, hra⟩, q, qb⟩ := h
    have PP := RAt_parts K
    refine ⟨_, [_, _, _], (pss_cons (ps_expr (pe_fn D_look_layers (g_look_layers T) (hr.mono (by first | decide | omega)) (fun σ => passAt (takes_of rfl rfl rfl rfl) σ) (pa_cons (pv 1) pa_nil)))
      (pss_cons (ps_fld (pv 0) (pe_lc (own := [("layer", 2)]) (g := gName 2) (tt := tYes) rfl sc_Reader_init.nd (pi_list (pv 1)) (blkOk_by (own := [("layer", 2)]) (N := n_Reader_init) (sc := defScope s_Reader_init) (by decide +kernel)) (fun _ _ _ _ _ => pg_name (i := 2) sc_Reader_init.nd rfl (Or.inl rfl)) (fun _ _ _ _ _ => pts_nil) (fun _ _ _ _ _ => (pe_fn D_reader_of (g_reader_of T) (hr.mono (by first | decide | omega)) (fun _ => passE) (pa_cons (pv 2) pa_nil)))) rfl)
      (pss_one (ps_fld (pv 0) pe_non rfl)))), rfl, ?_⟩
    try dsimp only [cxOf]
    wtm_at "x"
    refine ⟨a, ts, ls, rfl, ha, hra, fun hg H1 e1 => ?_, qb⟩
    unfold goodAll at hg
    rw [Bool.and_eq_true, decide_eq_true_eq] at hg
    obtain ⟨h8, hall⟩ := hg
    obtain ⟨lays, rfl, oks⟩ := good_all_lays hall
    rw [List.length_map] at h8
    have hra1 := hra.ext e1
    have hlen : ts.length = lays.length := by rw [hra.len, List.length_map]
    wtm_at "x"
    refine ⟨a, rfl, ⟨_, SqL.ext e1 ha⟩, fun D hD => lc_list (K := K) (a := a) (xs := ts.map V.ref) (fun i H' => ∃ ps : List (Addr × Addr), ps.length = i ∧ Good (RAt K) H' ps ((lays.take i).map newR) ∧ (∀ x, x ∈ flat ps → H x = none) ∧ H' D = some (.lst (pV ps)) ∧ D ∉ flat ps ∧ Ext H1 H')
      ⟨[], rfl, ⟨rfl, fun i p l s h => by simp at h, List.nodup_nil⟩, (fun _ h => nomatch h), upd_same, (fun h => nomatch h), Only'.put0 Only'.refl hD⟩ (fun i H' _ ⟨ps, _, _, _, _, _, e⟩ => SqL.ext (e1.trans e) ha) ?_ ?_⟩
    · rintro i x H' hi ⟨ps, hl, hg, hf, hDl, nD, e⟩
      obtain ⟨t, ht, rfl⟩ : ∃ t, ts[i]? = some t ∧ x = V.ref t := by
        rw [List.getElem?_map] at hi
        cases z : ts[i]? with
        | none => rw [z] at hi; cases hi
        | some t => rw [z] at hi; exact ⟨t, rfl, (Option.some.inj hi).symm⟩
      have hilt : i < lays.length := by rw [← hlen]; exact (List.getElem?_eq_some_iff.mp ht).1
      have hly := List.getElem?_eq_getElem hilt
      refine ⟨rfl, ?_⟩
      unfold tYes
      dsimp only
      wtm_at "x"
      refine ⟨t, lays[i], rfl, ?_, oks _ (List.getElem_mem hilt), fun H2 p2 l2 hw n1 n2 ne e2 => ?_⟩
      · exact SqT.ext e (hra1.at_ i t _ _ ht (by rw [List.getElem?_map, hly]; rfl))
      · have hg2 : Good (RAt K) H2 ps ((lays.take i).map newR) := hg.ext PP e2 fun _ _ z => nomatch z
        have np : p2 ∉ flat ps := fun z => by
          obtain ⟨o, eo⟩ := hg.trk PP z
          rw [n1] at eo
          cases eo
        have nl : l2 ∉ flat ps := fun z => by
          obtain ⟨o, eo⟩ := hg.trk PP z
          rw [n2] at eo
          cases eo
        have hD2 := e2 D _ hDl (by simp)
        have nDp : D ≠ p2 := ne_of_none hDl n1
        have nDl : D ≠ l2 := ne_of_none hDl n2
        have hs : (lays.take (i + 1)).map newR = (lays.take i).map newR ++ [newR lays[i]] := by rw [take_more hly, List.map_append]; rfl
        have nD2 : D ∉ flat (ps ++ [(p2, l2)]) := by
          rw [flat_app]
          intro z
          rcases List.mem_append.mp z with z | z
          · exact nD z
          · have z' : D ∈ [p2, l2] := z
            simp [nDp, nDl] at z'
        refine ⟨pV ps, hD2, by rw [pV_len, hl, sizeLine_eq]; omega, ps ++ [(p2, l2)], by rw [List.length_append, hl]; rfl, ?_, fun x hx => ?_, ?_, nD2, ?_⟩
        · rw [hs]
          exact (hg2.snoc hw np nl ne).ext PP (Z := [D]) (Only'.put Only'.refl (by simp)) fun x hx z => nD2 (by rw [← List.mem_singleton.mp z]; exact hx)
        · rw [flat_app] at hx
          rcases List.mem_append.mp hx with z | z
          · exact hf x z
          · have z' : x ∈ [p2, l2] := z
            rcases List.mem_cons.mp z' with z' | z'
            · rw [z']; exact (e1.trans e).free n1
            · rw [List.mem_singleton.mp z']; exact (e1.trans e).free n2
        · rw [upd_same]
          unfold pV
          rw [List.map_append]
          rfl
        · exact (e.trans e2).put0 hD
    · rintro H' ⟨ps, hl, hg, hf, hDl, nD, e⟩
      rw [List.length_map, hlen] at hl hg
      rw [List.take_length] at hg
      have hp' : H' p = some (.ins (He.ga K "Reader") dx []) := (e1.trans e) p _ hp (by simp)
      have npf : p ∉ flat ps := fun z => by
        have := hf p z
        rw [hp] at this
        cases this
      have nDp : D ≠ p := fun z => by
        rw [z] at hD
        rw [e1 p _ hp (by simp)] at hD
        cases hD
      wtm_at "x"
      have hob : (upd (upd H' p (.ins (He.ga K "Reader") dx [("parts", .ref D)])) p (.ins (He.ga K "Reader") dx [("parts", .ref D), ("fault", .non)])) p = some (.ins (He.ga K "Reader") dx [("parts", .ref D), ("fault", .non)]) := upd_same
      refine q lays rfl oks h8 _ D ps.reverse ⟨hob, ?_, ?_, fun z => npf (flat_rev.mp z), fun z => nD (flat_rev.mp z), fun s hs => ?_, by rw [List.length_reverse]; omega⟩ (e1.free hD) (fun x hx => hf x (flat_rev.mp hx)) ?_
      · rw [List.reverse_reverse]
        exact upd_get nDp (upd_get nDp hDl)
      · rw [List.map_reverse]
        refine Good.rev (hg.ext PP (Z := [p]) ((Only'.refl.put (by simp)).put (by simp)) fun x hx z => npf (by rw [← List.mem_singleton.mp z]; exact hx))
      · obtain ⟨ly, hly, rfl⟩ := List.mem_map.mp hs
        exact newR_ok (oks ly (List.mem_reverse.mp hly))
      · exact (((e1.trans e).mono fun _ h => nomatch h).put (by simp)).put (by simp)
end
end Flow

namespace Flow
open PySem PySem.Spec PyProof.Rows L2
/-- what a Reader tells: the bytes at r, the fault's value fv, in a tuple at tp -/
def spReaderTake (K : PySem.W.Frag) : Sp := fun vs H Q _ => ∃ (p c dx rw_ : Addr) (ps : List (Addr × Addr)) (ss : List RSt) (row : Row), vs = [.ref p, .ref rw_] ∧ ReaderAt K H p c dx ps ss ∧ SqL K H rw_ (iV row) ∧ rw_ ∉ flat ps ∧ Bys row ∧ (rrow ss row).1.length ≤ 16777216 ∧
  ((rrow ss row).2.2 = none → ∀ (H' : Hp) (tp r : Addr) (ps' : List (Addr × Addr)), Step (RAt K) [] H ps ss H' ps' (rrow ss row).2.1 → ReaderAt K H' p c dx ps' (rrow ss row).2.1 → H' tp = some (.tup [.ref r, .non]) → H' r = some (.lst (iV (rrow ss row).1)) → H tp = none → H r = none → r ∉ flat ps' → tp ∉ flat ps' → Q (.ref tp) H') ∧
  (∀ flt, (rrow ss row).2.2 = some flt → ∀ (H' : Hp) (tp r t : Addr), ReaderFl K H' p c dx t flt → H' tp = some (.tup [.ref r, .ref t]) → H' r = some (.lst (iV (rrow ss row).1)) → H tp = none → H r = none → H t = none → Only' (p :: flat ps) H H' → Q (.ref tp) H')
/-- .. behind a fault -/
def spReaderTakeF (K : PySem.W.Frag) : Sp := fun vs H Q _ => ∃ (p c dx rw_ t : Addr) (flt : Fault) (row : Row), vs = [.ref p, .ref rw_] ∧ ReaderFl K H p c dx t flt ∧ SqL K H rw_ (iV row) ∧
  ∀ (H' : Hp) (tp r : Addr), Ext H H' → H' tp = some (.tup [.ref r, .ref t]) → H' r = some (.lst []) → H tp = none → H r = none → Q (.ref tp) H'
theorem SqL.lives {K : PySem.W.Frag} {H H' : Hp} {a : Addr} {xs : List V} (h : SqL K H a xs) (g : ∀ o, (o = HO.lst xs ∨ ∃ ob, o = HO.frz ob (.lst xs)) → H a = some o → H' a = some o) : SqL K H' a xs := by
  rcases h with (h | ⟨o, h⟩) | h
  · exact .inl (.inl (g _ (Or.inl rfl) h))
  · exact .inl (.inr ⟨o, g _ (Or.inr ⟨o, rfl⟩) h⟩)
  · exact .inr h
/-- .. one or the other -/
def spReaderTakeB (K : PySem.W.Frag) : Sp := fun vs H Q E => spReaderTakeF K vs H Q E ∨ spReaderTake K vs H Q E
section
variable {P : Program} {w : World} {K : PySem.W.Frag} {mg : Str → Option Value} {base : Heap}
theorem ok_Reader_take (T : Tx K mg) : DefOk P w K mg base 15 (He.ma K (He.ga K "Reader") "take") ["self", "row"] (spReaderTakeB K) := by
  refine def_ok (N := n_Reader_take) (fn_Reader_take T) sc_Reader_take (fun _ _ _ _ _ _ us hl => match us, hl with | [_, _], _ => rfl) (fun vs H Q E h => ?_) (fun cdv A outer s H vs Q E hr h => ?_)
  · rcases h with ⟨p, c, dx, rw_, t, flt, row, rfl, _⟩ | ⟨p, c, dx, rw_, ps, ss, row, rfl, _⟩ <;> rfl
  · rcases h with h | h
    · obtain ⟨p, c, dx, rw_, t, flt, row, rfl, hR, hrw, q⟩ := h
      have M_Reader_one := meth1 (cl_Reader T) (me_Reader_one T) (none_Reader_one (P := P) (w := w) (base := base) T 14)
      obtain ⟨hp, ht⟩ := hR
      refine ⟨_, [_, _, _, _], (pss_cons (ps_set (i := 2) sc_Reader_take.nd rfl (Or.inl rfl) (pe_lst pa_nil))
      (pss_cons (ps_for (passes_of rfl) rfl (pi_list (pv 1)) (pg_name (i := 3) sc_Reader_take.nd rfl (Or.inl rfl)) (pss_one (ps_if (pt_cmpR op_isNS (pe_fld (pv 0) rfl) pe_non (nomark _)) (pss_one (ps_expr (pe_bm PySem.F.plainAttrs_list PySem.F.slot_list_extend PySem.F.type_list_extend mt_extend (pv 2) (pa_cons (pe_mm M_Reader_one (hr.mono (by first | decide | omega)) (fun _ => passE) (pv 0) (pa_cons (pe_op op_sub (pe_callB call_lenS rfl (f_len T) (by decide +kernel) (pa_cons (pe_fld (pv 0) rfl) pa_nil)) pe_int) (pa_cons (pv 3) pa_nil))) pa_nil)))) pss_nil)))
      (pss_one (ps_ret (pe_tup (pa_cons (pv 2) (pa_cons (pe_fld (pv 0) rfl) pa_nil))))))), rfl, ?_⟩
      try dsimp only [cxOf]
      wtm_at "x"
      intro f hf
      wtm_at "x"
      have e1 : Ext H (upd H f (.lst [])) := Only'.put0 Only'.refl hf
      have hf1 : (upd H f (.lst [])) f = some (.lst []) := upd_same
      generalize (upd H f (.lst [])) = H1 at *
      have hrw1 := SqL.ext e1 hrw
      have hp1 := e1 p _ hp (by simp)
      refine x_rForL hrw1 (fun i σ Hi => (∃ v3, σ = [some (.ref p), some (.ref rw_), some (.ref f), v3]) ∧ Hi = H1) ⟨⟨_, rfl⟩, rfl⟩ (fun i σ Hi _ h => by rw [h.2]; exact hrw1) ?_ ?_
      · rintro i x σ Hi hi ⟨⟨v3, rfl⟩, rfl⟩
        wtm_at "x"
        exact ⟨⟨_, rfl⟩, rfl⟩
      · rintro σ Hi ⟨⟨v3, rfl⟩, rfl⟩
        wtm_at "x"
        intro tp htp
        exact q _ tp f (e1.new htp) upd_same (keep hf1 htp) (e1.free htp) hf
    · obtain ⟨p, c, dx, rw_, ps, ss, row, rfl, hR, hrw, nrw, hby, hz, q, qf⟩ := h
      have M_Reader_one := meth1 (cl_Reader T) (me_Reader_one T) ((ok_Reader_one (P := P) (w := w) (base := base) T ps.length).mono (k := 14) (by have := hR.few; omega))
      have PP := RAt_parts K
      obtain ⟨hp, hc, hg, np, nc, hk, few⟩ := hR
      have hlen : ps.length = ss.length := hg.len
      refine ⟨_, [_, _, _, _], (pss_cons (ps_set (i := 2) sc_Reader_take.nd rfl (Or.inl rfl) (pe_lst pa_nil))
      (pss_cons (ps_for (passes_of rfl) rfl (pi_list (pv 1)) (pg_name (i := 3) sc_Reader_take.nd rfl (Or.inl rfl)) (pss_one (ps_if (pt_cmpR op_isNS (pe_fld (pv 0) rfl) pe_non (nomark _)) (pss_one (ps_expr (pe_bm PySem.F.plainAttrs_list PySem.F.slot_list_extend PySem.F.type_list_extend mt_extend (pv 2) (pa_cons (pe_mm M_Reader_one (hr.mono (by first | decide | omega)) (fun _ => passE) (pv 0) (pa_cons (pe_op op_sub (pe_callB call_lenS rfl (f_len T) (by decide +kernel) (pa_cons (pe_fld (pv 0) rfl) pa_nil)) pe_int) (pa_cons (pv 3) pa_nil))) pa_nil)))) pss_nil)))
      (pss_one (ps_ret (pe_tup (pa_cons (pv 2) (pa_cons (pe_fld (pv 0) rfl) pa_nil))))))), rfl, ?_⟩
      try dsimp only [cxOf]
      wtm_at "x"
      intro f hf
      wtm_at "x"
      have e2 : Ext H (upd H f (.lst [])) := Only'.put0 Only'.refl hf
      have hf2 : (upd H f (.lst [])) f = some (.lst []) := upd_same
      generalize (upd H f (.lst [])) = H2 at *
      have hrw2 := SqL.ext e2 hrw
      have hp2 := e2 p _ hp (by simp)
      have hc2 := e2 c _ hc (by simp)
      have gt2 : Good (RAt K) H2 ps ss := hg.ext PP e2 fun _ _ z => nomatch z
      have nfp : f ≠ p := (ne_of_none hp hf).symm
      have nff : f ∉ flat ps := fun z => by
        obtain ⟨o, e⟩ := hg.trk PP z
        rw [hf] at e
        cases e
      have nwf : ∀ o, (o = HO.lst (iV row) ∨ ∃ ob, o = HO.frz ob (.lst (iV row))) → H2 rw_ = some o → rw_ ≠ p := fun o ho h z => by
        rw [z, hp2] at h
        have h' := Option.some.inj h
        rcases ho with h2 | ⟨ob, h2⟩ <;> (rw [h2] at h'; cases h')
      have er : rrow ss row = rseq (rone ps.length) ss row := by unfold rrow; rw [hlen]
      rw [er] at q qf hz
      refine x_rForL hrw2 (fun i σ Hi => (∃ v3, σ = [some (.ref p), some (.ref rw_), some (.ref f), v3]) ∧
          ((∃ (psi : List (Addr × Addr)) (ssi : List RSt) (outi : Row), Step (RAt K) [f] H2 ps ss Hi psi ssi ∧ Hi f = some (.lst (iV outi)) ∧ ROks ssi ∧ (outi ++ (rseq (rone ps.length) ssi (row.drop i)).1, (rseq (rone ps.length) ssi (row.drop i)).2) = rseq (rone ps.length) ss row) ∨
            ∃ (flt : Fault) (t : Addr), (rseq (rone ps.length) ss row).2.2 = some flt ∧ Hi p = some (.ins (He.ga K "Reader") dx [("parts", .ref c), ("fault", .ref t)]) ∧ Hi t = some (.tup (faultV flt)) ∧ H2 t = none ∧ Hi f = some (.lst (iV (rseq (rone ps.length) ss row).1)) ∧ Only' (p :: f :: flat ps) H2 Hi))
        ⟨⟨_, rfl⟩, Or.inl ⟨ps, ss, [], Step.refl gt2, hf2, hk, rfl⟩⟩ ?_ ?_ ?_
      · rintro i σ Hi _ ⟨_, h | ⟨flt, t, _, _, _, _, _, o⟩⟩
        · obtain ⟨psi, ssi, outi, st, _⟩ := h
          exact SqL.lives hrw fun o1 ho1 h1 => st.only rw_ o1 (e2 rw_ _ h1 (by simp)) (by simp [ne_of_none h1 hf, nrw])
        · exact SqL.lives hrw fun o1 ho1 h1 => o rw_ o1 (e2 rw_ _ h1 (by simp)) (by simp [nwf o1 ho1 (e2 rw_ _ h1 (by simp)), ne_of_none h1 hf, nrw])
      · rintro i x σ Hi hi ⟨⟨v6, rfl⟩, h | ⟨flt, t, hflt, hpi, hti, ht0, hfi, o⟩⟩
        · obtain ⟨psi, ssi, outi, st, hfi, hki, eo⟩ := h
          obtain ⟨z, hz1, rfl⟩ := iV_get hi
          have hbz : By z := hby z (List.mem_of_getElem? hz1)
          have hpi := st.only p _ hp2 (by simp [nfp.symm, np])
          have hci := st.only c _ hc2 (by
            have : c ≠ f := ne_of_none hc hf
            simp [this, nc])
          have nfi : f ∉ flat psi := st.out hf2 nff
          have npi : p ∉ flat psi := st.out hp2 np
          have nci : c ∉ flat psi := st.out hc2 nc
          rw [drop_more hz1, rseq_cons] at eo
          have hci' : Hi c = some (.lst (pV psi.reverse ++ [])) := by
            rw [hci, pV_fst (ps := ps.reverse) (ps' := psi.reverse) (by rw [List.map_reverse, List.map_reverse, st.fst]), List.append_nil]
          have hln : (rone ps.length ssi z).1.length ≤ 16777216 ∧ outi.length + (rone ps.length ssi z).1.length ≤ 16777216 := by
            have hz2 : (rseq (rone ps.length) ss row).1.length ≤ 16777216 := hz
            rw [← eo] at hz2
            cases hro : rone ps.length ssi z with
            | mk o1 r1 =>
              obtain ⟨ss1, fl⟩ := r1
              rw [hro] at hz2
              cases fl <;> simp only [List.length_append] at hz2 <;> exact ⟨by dsimp only; omega, by dsimp only; omega⟩
          wtm_at "x"
          refine ite_d (fun _ => ?_) fun hne => absurd rfl hne
          wtm_at "x"
          have epl : (pV psi.reverse ++ []).length = ps.length := by rw [List.append_nil, pV_len, List.length_reverse, st.len]
          rw [epl]
          refine ⟨p, c, dx, [], psi, ssi, z, rfl, hpi, hci', st.good, st.len, npi, nci, hki, hbz, hln.1, fun hno H3 r3 ps3 st3 hr3 hr30 nr3 => ?_, fun flt hflt H3 r3 t3 hp3 ht3 ht30 hr30 hr3 o3 => ?_⟩
          · have hf3 : H3 f = some (.lst (iV outi)) := st3.only f _ hfi (by simpa using nfi)
            refine x_nil ?_
            refine x_extend hf3 hr3 (by rw [iV_length, iV_length, sizeLine_eq]; exact hln.2) ?_
            have st4 : Step (RAt K) [f] H2 ps ss H3 ps3 (rone ps.length ssi z).2.1 := st.trans (st3.wide fun x hx => nomatch hx)
            refine ⟨⟨_, rfl⟩, Or.inl ⟨ps3, (rone ps.length ssi z).2.1, outi ++ (rone ps.length ssi z).1, st4.put PP (by simp) (st4.out hf2 nff), by rw [upd_same, iV_append], (rone_oks ps.length ssi z hki hbz).1, ?_⟩⟩
            rw [← eo]
            generalize rone ps.length ssi z = o at hno ⊢
            obtain ⟨o1, ss1, fl⟩ := o
            have hno' : fl = none := hno
            subst hno'
            dsimp only
            rw [List.append_assoc]
          · have hf3 : H3 f = some (.lst (iV outi)) := o3 f _ hfi (by simp [nfp, nfi])
            refine x_nil ?_
            refine x_extend hf3 hr3 (by rw [iV_length, iV_length, sizeLine_eq]; exact hln.2) ?_
            have et : t3 ≠ f := (ne_of_none hfi ht30).symm
            have eo3 : (rseq (rone ps.length) ss row).2.2 = some flt ∧ (rseq (rone ps.length) ss row).1 = outi ++ (rone ps.length ssi z).1 := by
              rw [← eo]
              generalize rone ps.length ssi z = o at hflt ⊢
              obtain ⟨o1, ss1, fl⟩ := o
              have hfl' : fl = some flt := hflt
              subst hfl'
              exact ⟨rfl, rfl⟩
            refine ⟨⟨_, rfl⟩, Or.inr ⟨flt, t3, eo3.1, upd_get nfp.symm hp3, upd_get et ht3, st.only.free ht30, by rw [upd_same, eo3.2, iV_append], ⟨fun y u hy hn2 => ?_, fun y u hy => ?_⟩⟩⟩
            · have hn3 : y ≠ p ∧ y ≠ f ∧ y ∉ flat ps := by simpa using hn2
              have y1 := st.only y u hy (by simp [hn3])
              refine upd_get hn3.2.1 (o3 y u y1 ?_)
              have : y ∉ flat psi := st.out hy hn3.2.2
              simp [hn3, this]
            · obtain ⟨u1, y1⟩ := st.only.more y u hy
              obtain ⟨u2, y2⟩ := o3.more y u1 y1
              exact upd_more y2
        · wtm_at "x"
          exact ⟨⟨_, rfl⟩, Or.inr ⟨flt, t, hflt, hpi, hti, ht0, hfi, o⟩⟩
      · rintro σ Hi ⟨⟨v6, rfl⟩, h | ⟨flt, t, hflt, hpi, hti, ht0, hfi, o⟩⟩
        · obtain ⟨psi, ssi, outi, st, hfi, hki, eo⟩ := h
          rw [iV_length, List.drop_length] at eo
          have eo2 : (outi, ssi, none) = rseq (rone ps.length) ss row := by
            rw [← eo]
            show _ = (outi ++ [], _, _)
            rw [List.append_nil]
          have hpi := st.only p _ hp2 (by simp [nfp.symm, np])
          have hci := st.only c _ hc2 (by
            have : c ≠ f := ne_of_none hc hf
            simp [this, nc])
          wtm_at "x"
          intro tp htp
          rw [← eo2] at q
          have stp : Step (RAt K) [] H ps ss Hi psi ssi := st.pre e2 fun x hx => Or.inr (by rw [List.mem_singleton.mp hx]; exact hf)
          have stq := stp.new PP (o := .tup [V.ref f, V.non]) htp
          refine q rfl _ tp f psi stq ⟨keep hpi htp, ?_, stq.good, st.out hp2 np, st.out hc2 nc, hki, by rw [st.len]; exact few⟩ upd_same (keep hfi htp) (stp.only.free htp) hf (st.out hf2 nff) (fun z => by
          obtain ⟨o, e⟩ := st.good.trk PP z
          rw [htp] at e
          cases e)
          rw [keep hci htp, pV_fst (ps := ps.reverse) (ps' := psi.reverse) (by rw [List.map_reverse, List.map_reverse, st.fst])]
        · wtm_at "x"
          intro tp htp
          have h1 : H2 tp = none := o.free htp
          refine qf flt hflt _ tp f t ⟨keep hpi htp, keep hti htp⟩ upd_same (keep hfi htp) (e2.free h1) hf (e2.free ht0) ⟨fun y u hy hn2 => ?_, fun y u hy => ?_⟩
          · have hn3 : y ≠ p ∧ y ∉ flat ps := by simpa using hn2
            have y1 := e2 y u hy (by simp)
            exact upd_get (ne_of_none y1 h1) (o y u y1 (by simp [hn3, ne_of_none hy hf]))
          · obtain ⟨u1, y1⟩ := e2.more y u hy
            obtain ⟨u2, y2⟩ := o.more y u1 y1
            exact upd_more y2
end
end Flow

namespace Flow
open PySem PySem.Spec PyProof.Rows L2
def spClosing (K : PySem.W.Frag) : Sp := fun vs H Q _ => ∃ (n : Nat) (p c dx p0 l0 : Addr) (rest : List V) (ps : List (Addr × Addr)) (s0 : RSt) (ss : List RSt), vs = [.ref p, .int (n : Int)] ∧
  H p = some (.ins (He.ga K "Reader") dx [("parts", .ref c), ("fault", .non)]) ∧ H c = some (.lst (pV ps.reverse ++ (V.ref p0 :: rest))) ∧ Good (RAt K) H ((p0, l0) :: ps) (s0 :: ss) ∧ ps.length = n ∧ n ≤ 8 ∧ p ∉ flat ((p0, l0) :: ps) ∧ c ∉ flat ((p0, l0) :: ps) ∧ ROks (s0 :: ss) ∧ (rclose n s0 ss).1.length ≤ 16777216 ∧
  ((rclose n s0 ss).2.2 = none → ∀ (H' : Hp) (r : Addr) (ps' : List (Addr × Addr)), Step (RAt K) [p0, l0] H ps ss H' ps' (rclose n s0 ss).2.1 → H' r = some (.lst (iV (rclose n s0 ss).1)) → H r = none → r ∉ flat ps' → Q (.ref r) H') ∧
  (∀ f, (rclose n s0 ss).2.2 = some f → ∀ (H' : Hp) (r t : Addr), H' p = some (.ins (He.ga K "Reader") dx [("parts", .ref c), ("fault", .ref t)]) → H' t = some (.tup (faultV f)) → H t = none → H r = none → H' r = some (.lst (iV (rclose n s0 ss).1)) → Only' (p :: flat ((p0, l0) :: ps)) H H' → Q (.ref r) H')
section
variable {P : Program} {w : World} {K : PySem.W.Frag} {mg : Str → Option Value} {base : Heap}
theorem ok_Reader_closing (T : Tx K mg) : DefOk P w K mg base 15 (He.ma K (He.ga K "Reader") "closing") ["self", "at"] (spClosing K) := by
  refine def_ok (N := n_Reader_closing) (fn_Reader_closing T) sc_Reader_closing (fun _ _ _ _ _ _ us hl => match us, hl with | [_, _], _ => rfl) (fun vs H Q E h => ?_) (fun cdv A outer s H vs Q E hr h => ?_)
  · obtain ⟨n, p, c, dx, p0, l0, rest, ps, s0, ss, rfl, _⟩ := h
    rfl
  · obtain ⟨n, p, c, dx, p0, l0, rest, ps, s0, ss, rfl, hp, hc, hg, hn', hn8, np, nc, hk, hz, q, qf⟩ := h
    have M_Reader_one := meth1 (cl_Reader T) (me_Reader_one T) ((ok_Reader_one (P := P) (w := w) (base := base) T n).mono (k := 14) (by omega))
    have PP := RAt_parts K
    obtain ⟨gt, np0, nl0, ne0⟩ := hg.tail
    have hw : RAt K H p0 l0 s0 := hg.at_ 0 p0 l0 s0 rfl rfl
    have np' : p ≠ p0 ∧ p ≠ l0 ∧ p ∉ flat ps := by
      have : p ∉ p0 :: l0 :: flat ps := np
      simpa using this
    have nc' : c ≠ p0 ∧ c ≠ l0 ∧ c ∉ flat ps := by
      have : c ∉ p0 :: l0 :: flat ps := nc
      simpa using this
    have hk0 : ROk s0 := hk s0 (List.mem_cons_self ..)
    have hkt : ROks ss := fun x hx => hk x (List.mem_cons_of_mem _ hx)
    refine drv_go (σ0 := [_, _, _, _, _, _]) ?_
    apply drv_cons (ps_try0 (tb := fun W => tAsg (tMu P w K mg base 5 "end" ["self"] (fun σ cls d H2 => W cls d σ H2) (tOp (rIxL K) (tFld K (tVar 0) "parts") (tVar 1)) tNil) (gName 2)) rfl rfl takes0 ?hh ?hb)
    case hh => exact (Clauses.named (i := 3) (ts := fun a cls d => tSeq (sFld K (tVar 0) (tTup (tCons (tC (.str "wrong")) (tCons (tVar 1) (tCons (tXf a cls d (He.ga K "Wrong") "place" (tVar 3)) tNil)))) "fault") (tRet (tLst tNil))) sc_Reader_closing.nd rfl rfl ⟨rfl, by decide, .inl (g_Wrong T)⟩ (fun a oe cls d pn hz hf => (pss_cons (ps_fld (pv 0) (pe_tup (pa_cons pe_str (pa_cons (pv 1) (pa_cons (pe_xf (xf_Wrong T) (no_Wrong_place T) hz hf (pv 3)) pa_nil)))) rfl)
      (pss_one (ps_ret (pe_lst pa_nil))))) (Clauses.bare (ts := fun a cls d => tSeq (sFld K (tVar 0) (tTup (tCons (tC (.str "cut")) (tCons (tVar 1) tNil))) "fault") (tRet (tLst tNil))) ⟨rfl, by decide, .inl (g_Cut T)⟩ (fun a oe cls d pn hz hf => (pss_cons (ps_fld (pv 0) (pe_tup (pa_cons pe_str (pa_cons (pv 1) pa_nil))) rfl)
      (pss_one (ps_ret (pe_lst pa_nil))))) Clauses.nil))
    case hb => exact fun W pn xe tk po => (pss_one (ps_set (i := 2) sc_Reader_closing.nd rfl (Or.inl rfl) (pe_mu0 5 ["self"] (hr.mono (by first | decide | omega)) (fun σ => passAt tk σ) (pe_ix ix_list (pe_fld (pv 0) rfl) (pv 1) (fun _ _ => rfl)))))
    refine drv_end (pss_cons (ps_set (i := 4) sc_Reader_closing.nd rfl (Or.inl rfl) (pe_lst pa_nil))
      (pss_cons (ps_for (passes_of rfl) rfl (pi_list (pv 2)) (pg_name (i := 5) sc_Reader_closing.nd rfl (Or.inl rfl)) (pss_one (ps_if (pt_cmpR op_isNS (pe_fld (pv 0) rfl) pe_non (nomark _)) (pss_one (ps_expr (pe_bm PySem.F.plainAttrs_list PySem.F.slot_list_extend PySem.F.type_list_extend mt_extend (pv 4) (pa_cons (pe_mm M_Reader_one (hr.mono (by first | decide | omega)) (fun _ => passE) (pv 0) (pa_cons (pe_op op_sub (pv 1) pe_int) (pa_cons (pv 5) pa_nil))) pa_nil)))) pss_nil)))
      (pss_one (ps_ret (pv 4))))) ?_
    try dsimp only [cxOf]
    wtm_at "x"
    unfold tTryE
    dsimp only
    wtm_at "x"
    have hix : (pV ps.reverse ++ (V.ref p0 :: rest))[n]? = some (.ref p0) := by
      rw [List.getElem?_append_right (by rw [pV_len, List.length_reverse, hn']; exact Nat.le_refl _), pV_len, List.length_reverse, hn', Nat.sub_self]
      rfl
    refine x_ixL (SqL.of hc) (at_of rfl hix) ?_
    wtm_at "x"
    refine x_rend T hw hk0 (fun row er H1 r hr0 hr' ho => ?_) (fun er H1 ho => ?_) (fun place er H1 d ho hd hx => ?_)
    · have e1 : rclose n s0 ss = rseq (rone n) ss row := by
        unfold rclose
        rw [er]
      rw [e1] at q qf hz
      have by1 := rend_ok hk0 er
      have gt1 : Good (RAt K) H1 ps ss := gt.ext PP ho fun x hx z => by
        rcases List.mem_cons.mp z with z | z
        · exact np0 (z ▸ hx)
        · exact nl0 ((List.mem_singleton.mp z) ▸ hx)
      have hp1 := ho p _ hp (by simp [np'])
      have hc1 := ho c _ hc (by simp [nc'])
      have nrp : r ≠ p := (ne_of_none hp hr0).symm
      have nrf : r ∉ flat ps := fun z => by
        obtain ⟨o, e⟩ := gt.trk PP z
        rw [hr0] at e
        cases e
      wtm_at "x"
      intro f hf
      have nfp : f ≠ p := (ne_of_none hp1 hf).symm
      have nfr : f ≠ r := (ne_of_none hr' hf).symm
      have nff : f ∉ flat ps := fun z => by
        obtain ⟨o, e⟩ := gt1.trk PP z
        rw [hf] at e
        cases e
      wtm_at "x"
      have e2 : Ext H1 (upd H1 f (.lst [])) := Only'.put0 Only'.refl hf
      have hf2 : (upd H1 f (.lst [])) f = some (.lst []) := upd_same
      generalize (upd H1 f (.lst [])) = H2 at *
      have hr2 := e2 r _ hr' (by simp)
      have hp2 := e2 p _ hp1 (by simp)
      have hc2 := e2 c _ hc1 (by simp)
      have gt2 : Good (RAt K) H2 ps ss := gt1.ext PP e2 fun _ _ z => nomatch z
      refine x_rForL (SqL.of hr2) (fun i σ Hi => (∃ v6, σ = [some (.ref p), some (.int (n : Int)), some (.ref r), none, some (.ref f), v6]) ∧
          ((∃ (psi : List (Addr × Addr)) (ssi : List RSt) (outi : Row), Step (RAt K) [f] H2 ps ss Hi psi ssi ∧ Hi f = some (.lst (iV outi)) ∧ ROks ssi ∧ (outi ++ (rseq (rone n) ssi (row.drop i)).1, (rseq (rone n) ssi (row.drop i)).2) = rseq (rone n) ss row) ∨
            ∃ (flt : Fault) (t : Addr), (rseq (rone n) ss row).2.2 = some flt ∧ Hi p = some (.ins (He.ga K "Reader") dx [("parts", .ref c), ("fault", .ref t)]) ∧ Hi t = some (.tup (faultV flt)) ∧ H2 t = none ∧ Hi f = some (.lst (iV (rseq (rone n) ss row).1)) ∧ Only' (p :: f :: flat ps) H2 Hi))
        ⟨⟨_, rfl⟩, Or.inl ⟨ps, ss, [], Step.refl gt2, hf2, hkt, rfl⟩⟩ ?_ ?_ ?_
      · rintro i σ Hi _ ⟨_, h | ⟨flt, t, _, _, _, _, _, o⟩⟩
        · obtain ⟨psi, ssi, outi, st, _⟩ := h
          exact SqL.of (st.only r _ hr2 (by simp [nfr.symm, nrf]))
        · exact SqL.of (o r _ hr2 (by simp [nrp, nfr.symm, nrf]))
      · rintro i x σ Hi hi ⟨⟨v6, rfl⟩, h | ⟨flt, t, hflt, hpi, hti, ht0, hfi, o⟩⟩
        · obtain ⟨psi, ssi, outi, st, hfi, hki, eo⟩ := h
          obtain ⟨z, hz1, rfl⟩ := iV_get hi
          have hbz : By z := by1 z (List.mem_of_getElem? hz1)
          have hpi := st.only p _ hp2 (by simp [nfp.symm, np'])
          have hci := st.only c _ hc2 (by
            have : c ≠ f := ne_of_none hc1 hf
            simp [this, nc'])
          have nfi : f ∉ flat psi := st.out hf2 nff
          have npi : p ∉ flat psi := st.out hp2 np'.2.2
          have nci : c ∉ flat psi := st.out hc2 nc'.2.2
          rw [drop_more hz1, rseq_cons] at eo
          have hci' : Hi c = some (.lst (pV psi.reverse ++ (V.ref p0 :: rest))) := by
            rw [hci, pV_fst (ps := ps.reverse) (ps' := psi.reverse) (by rw [List.map_reverse, List.map_reverse, st.fst])]
          have hlen : (rone n ssi z).1.length ≤ 16777216 ∧ outi.length + (rone n ssi z).1.length ≤ 16777216 := by
            have hz2 : (rseq (rone n) ss row).1.length ≤ 16777216 := hz
            rw [← eo] at hz2
            cases hro : rone n ssi z with
            | mk o1 r1 =>
              obtain ⟨ss1, fl⟩ := r1
              rw [hro] at hz2
              cases fl <;> simp only [List.length_append] at hz2 <;> exact ⟨by dsimp only; omega, by dsimp only; omega⟩
          wtm_at "x"
          refine ite_d (fun _ => ?_) fun hne => absurd rfl hne
          wtm_at "x"
          refine ⟨p, c, dx, _, psi, ssi, z, rfl, hpi, hci', st.good, by rw [st.len]; exact hn', npi, nci, hki, hbz, hlen.1, fun hno H3 r3 ps3 st3 hr3 hr30 nr3 => ?_, fun flt hflt H3 r3 t3 hp3 ht3 ht30 hr30 hr3 o3 => ?_⟩
          · have hf3 : H3 f = some (.lst (iV outi)) := st3.only f _ hfi (by simpa using nfi)
            refine x_nil ?_
            refine x_extend hf3 hr3 (by rw [iV_length, iV_length, sizeLine_eq]; exact hlen.2) ?_
            have st4 : Step (RAt K) [f] H2 ps ss H3 ps3 (rone n ssi z).2.1 := st.trans (st3.wide fun x hx => nomatch hx)
            refine ⟨⟨_, rfl⟩, Or.inl ⟨ps3, (rone n ssi z).2.1, outi ++ (rone n ssi z).1, st4.put PP (by simp) (st4.out hf2 nff), by rw [upd_same, iV_append], (rone_oks n ssi z hki hbz).1, ?_⟩⟩
            rw [← eo]
            generalize rone n ssi z = o at hno ⊢
            obtain ⟨o1, ss1, fl⟩ := o
            have hno' : fl = none := hno
            subst hno'
            dsimp only
            rw [List.append_assoc]
          · have nfp3 : f ∉ flat psi := nfi
            have hf3 : H3 f = some (.lst (iV outi)) := o3 f _ hfi (by simp [nfp, nfi])
            refine x_nil ?_
            refine x_extend hf3 hr3 (by rw [iV_length, iV_length, sizeLine_eq]; exact hlen.2) ?_
            have et : t3 ≠ f := (ne_of_none hfi ht30).symm
            have eo3 : (rseq (rone n) ss row).2.2 = some flt ∧ (rseq (rone n) ss row).1 = outi ++ (rone n ssi z).1 := by
              rw [← eo]
              generalize rone n ssi z = o at hflt ⊢
              obtain ⟨o1, ss1, fl⟩ := o
              have hfl' : fl = some flt := hflt
              subst hfl'
              exact ⟨rfl, rfl⟩
            refine ⟨⟨_, rfl⟩, Or.inr ⟨flt, t3, eo3.1, upd_get nfp.symm hp3, upd_get et ht3, st.only.free ht30, by rw [upd_same, eo3.2, iV_append], ⟨fun y u hy hn2 => ?_, fun y u hy => ?_⟩⟩⟩
            · have hn3 : y ≠ p ∧ y ≠ f ∧ y ∉ flat ps := by simpa using hn2
              have y1 := st.only y u hy (by simp [hn3])
              refine upd_get hn3.2.1 (o3 y u y1 ?_)
              have : y ∉ flat psi := st.out hy hn3.2.2
              simp [hn3, this]
            · obtain ⟨u1, y1⟩ := st.only.more y u hy
              obtain ⟨u2, y2⟩ := o3.more y u1 y1
              exact upd_more y2
        · wtm_at "x"
          exact ⟨⟨_, rfl⟩, Or.inr ⟨flt, t, hflt, hpi, hti, ht0, hfi, o⟩⟩
      · rintro σ Hi ⟨⟨v6, rfl⟩, h | ⟨flt, t, hflt, hpi, hti, ht0, hfi, o⟩⟩
        · obtain ⟨psi, ssi, outi, st, hfi, hki, eo⟩ := h
          rw [iV_length, List.drop_length] at eo
          have eo2 : (outi, ssi, none) = rseq (rone n) ss row := by
            rw [← eo]
            show _ = (outi ++ [], _, _)
            rw [List.append_nil]
          wtm_at "x"
          rw [← eo2] at q
          have stp : Step (RAt K) [] H1 ps ss Hi psi ssi := st.pre e2 fun x hx => Or.inr (by rw [List.mem_singleton.mp hx]; exact hf)
          exact q rfl Hi f psi (Step.pre (X := []) (X' := [p0, l0]) ho stp (fun _ z => nomatch z)) hfi (ho.free hf) (st.out hf2 nff)
        · wtm_at "x"
          refine qf flt hflt Hi f t hpi hti (ho.free (e2.free ht0)) (ho.free hf) hfi ⟨fun y u hy hn2 => ?_, fun y u hy => ?_⟩
          · have hn3 : y ≠ p ∧ y ≠ p0 ∧ y ≠ l0 ∧ y ∉ flat ps := by
              have : y ∉ p :: p0 :: l0 :: flat ps := hn2
              simpa using this
            have y1 := ho y u hy (by simp [hn3])
            exact o y u (e2 y u y1 (by simp)) (by simp [hn3, ne_of_none y1 hf])
          · obtain ⟨u1, y1⟩ := ho.more y u hy
            obtain ⟨u2, y2⟩ := e2.more y u1 y1
            exact o.more y u2 y2
    · have e1 : rclose n s0 ss = ([], ss, some (.cut (n : Int))) := by
        unfold rclose
        rw [er]
      have hp1 := ho p _ hp (by simp [np'])
      refine ⟨false, xm_Cut_Wrong T, (fun z => nomatch z), fun _ => ⟨true, xm_Cut_Cut T, fun _ a ha => ?_, fun z => nomatch z⟩⟩
      wtm_at "x"
      intro t ht
      wtm_at "x"
      intro r hr
      obtain ⟨n1, hr⟩ := upd_none hr
      obtain ⟨n2, hr1⟩ := upd_none hr
      rw [e1] at qf
      have nt : t ≠ p := (ne_of_none hp1 ht).symm
      refine qf (.cut (n : Int)) rfl _ r t (by wtm_at "h") (upd_get (Ne.symm n2) (upd_get nt upd_same)) (ho.free ht) (ho.free hr1) upd_same ?_
      exact (((ho.mono (by simp [flat])).put0 (ho.free ht)).put (by simp)).put0 (ho.free hr1)
    · have e1 : rclose n s0 ss = ([], ss, some (.wrong (n : Int) place)) := by
        unfold rclose
        rw [er]
      have hp1 := ho p _ hp (by simp [np'])
      refine ⟨true, xm_Wrong_Wrong T, fun _ a ha => ?_, fun z => nomatch z⟩
      wtm_at "x"
      refine ⟨_, rfl, rfl, rfl, d, _, _, rfl, hx, rfl, ?_⟩
      wtm_at "x"
      intro t ht
      wtm_at "x"
      intro r hr
      obtain ⟨n1, hr⟩ := upd_none hr
      obtain ⟨n2, hr1⟩ := upd_none hr
      rw [e1] at qf
      have nt : t ≠ p := (ne_of_none hp1 ht).symm
      refine qf (.wrong (n : Int) place) rfl _ r t (by wtm_at "h") (upd_get (Ne.symm n2) (upd_get nt upd_same)) (ho.free ht) (ho.free hr1) upd_same ?_
      exact (((ho.mono (by simp [flat])).put0 (ho.free ht)).put (by simp)).put0 (ho.free hr1)
end
end Flow

namespace Flow
open PySem PySem.Spec PyProof.Rows L2
/-- the end, and what is told -/
def spReaderEnd (K : PySem.W.Frag) : Sp := fun vs H Q _ => ∃ (p c dx : Addr) (ps : List (Addr × Addr)) (ss : List RSt), vs = [.ref p] ∧ ReaderAt K H p c dx ps ss ∧ (rendAll ss.length ss).1.length ≤ 16777216 ∧
  ((rendAll ss.length ss).2 = none → ∀ (H' : Hp) (tp r : Addr), H' tp = some (.tup [.ref r, .non]) → H' r = some (.lst (iV (rendAll ss.length ss).1)) → H tp = none → H r = none → Only' (p :: flat ps) H H' → Q (.ref tp) H') ∧
  (∀ flt, (rendAll ss.length ss).2 = some flt → ∀ (H' : Hp) (tp r t : Addr), H' tp = some (.tup [.ref r, .ref t]) → H' r = some (.lst (iV (rendAll ss.length ss).1)) → H' t = some (.tup (faultV flt)) → H tp = none → H r = none → H t = none → Only' (p :: flat ps) H H' → Q (.ref tp) H')
def spReaderEndF (K : PySem.W.Frag) : Sp := fun vs H Q _ => ∃ (p c dx t : Addr) (n : Nat) (flt : Fault), vs = [.ref p] ∧ ReaderFl K H p c dx t flt ∧ (∃ ys : List V, H c = some (.lst ys) ∧ ys.length = n ∧ n ≤ 8) ∧
  ∀ (H' : Hp) (tp r : Addr), Ext H H' → H' tp = some (.tup [.ref r, .ref t]) → H' r = some (.lst []) → H tp = none → H r = none → Q (.ref tp) H'
def spReaderEndB (K : PySem.W.Frag) : Sp := fun vs H Q E => spReaderEndF K vs H Q E ∨ spReaderEnd K vs H Q E
section
variable {P : Program} {w : World} {K : PySem.W.Frag} {mg : Str → Option Value} {base : Heap}
theorem ok_Reader_end (T : Tx K mg) : DefOk P w K mg base 16 (He.ma K (He.ga K "Reader") "end") ["self"] (spReaderEndB K) := by
  have M_Reader_closing := meth1 (cl_Reader T) (me_Reader_closing T) (ok_Reader_closing (P := P) (w := w) (base := base) T)
  refine def_ok (N := n_Reader_end) (fn_Reader_end T) sc_Reader_end (fun _ _ _ _ _ _ us hl => match us, hl with | [_], _ => rfl) (fun vs H Q E h => ?_) (fun cdv A outer s H vs Q E hr h => ?_)
  · rcases h with ⟨p, c, dx, t, n, flt, rfl, _⟩ | ⟨p, c, dx, ps, ss, rfl, _⟩ <;> rfl
  · rcases h with h | h
    · obtain ⟨p, c, dx, t, n, flt, rfl, ⟨hp, ht⟩, ⟨ys, hc, hys, hn8⟩, q⟩ := h
      refine ⟨_, [_, _, _], (pss_cons (ps_set (i := 1) sc_Reader_end.nd rfl (Or.inl rfl) (pe_lst pa_nil))
      (pss_cons (ps_for (passes_of rfl) rfl (pi_revR rfl (f_reversed T) (prg_1 rfl (f_range T) (pe_callB call_lenS rfl (f_len T) (by decide +kernel) (pa_cons (pe_fld (pv 0) rfl) pa_nil)))) (pg_name (i := 2) sc_Reader_end.nd rfl (Or.inl rfl)) (pss_one (ps_if (pt_cmpR op_isNS (pe_fld (pv 0) rfl) pe_non (nomark _)) (pss_one (ps_expr (pe_bm PySem.F.plainAttrs_list PySem.F.slot_list_extend PySem.F.type_list_extend mt_extend (pv 1) (pa_cons (pe_mm M_Reader_closing (hr.mono (by first | decide | omega)) (fun _ => passE) (pv 0) (pa_cons (pv 2) pa_nil)) pa_nil)))) pss_nil)))
      (pss_one (ps_ret (pe_tup (pa_cons (pv 1) (pa_cons (pe_fld (pv 0) rfl) pa_nil))))))), rfl, ?_⟩
      try dsimp only [cxOf]
      wtm_at "x"
      intro f hf
      wtm_at "x"
      have e1 : Ext H (upd H f (.lst [])) := Only'.put0 Only'.refl hf
      have hf1 : (upd H f (.lst [])) f = some (.lst []) := upd_same
      have nfp : f ≠ p := (ne_of_none hp hf).symm
      have nfc : f ≠ c := (ne_of_none hc hf).symm
      wtm_at "x"
      generalize (upd H f (.lst [])) = H1 at *
      have hp1 := e1 p _ hp (by simp)
      refine x_rForRev (k := n) (by rw [hys]) (by omega) (fun i σ Hi => (∃ v2, σ = [some (.ref p), some (.ref f), v2]) ∧ Hi = H1) ⟨⟨_, rfl⟩, rfl⟩ ?_ ?_
      · rintro i σ Hi hi ⟨⟨v3, rfl⟩, rfl⟩
        wtm_at "x"
        exact ⟨⟨_, rfl⟩, rfl⟩
      · rintro σ Hi ⟨⟨v3, rfl⟩, rfl⟩
        wtm_at "x"
        intro tp htp
        exact q _ tp f (e1.new htp) upd_same (keep hf1 htp) (e1.free htp) hf
    · obtain ⟨p, c, dx, ps, ss, rfl, hR, hz, q, qf⟩ := h
      have PP := RAt_parts K
      obtain ⟨hp, hc, hg, np, nc, hk, few⟩ := hR
      have hlen : ps.length = ss.length := hg.len
      refine ⟨_, [_, _, _], (pss_cons (ps_set (i := 1) sc_Reader_end.nd rfl (Or.inl rfl) (pe_lst pa_nil))
      (pss_cons (ps_for (passes_of rfl) rfl (pi_revR rfl (f_reversed T) (prg_1 rfl (f_range T) (pe_callB call_lenS rfl (f_len T) (by decide +kernel) (pa_cons (pe_fld (pv 0) rfl) pa_nil)))) (pg_name (i := 2) sc_Reader_end.nd rfl (Or.inl rfl)) (pss_one (ps_if (pt_cmpR op_isNS (pe_fld (pv 0) rfl) pe_non (nomark _)) (pss_one (ps_expr (pe_bm PySem.F.plainAttrs_list PySem.F.slot_list_extend PySem.F.type_list_extend mt_extend (pv 1) (pa_cons (pe_mm M_Reader_closing (hr.mono (by first | decide | omega)) (fun _ => passE) (pv 0) (pa_cons (pv 2) pa_nil)) pa_nil)))) pss_nil)))
      (pss_one (ps_ret (pe_tup (pa_cons (pv 1) (pa_cons (pe_fld (pv 0) rfl) pa_nil))))))), rfl, ?_⟩
      try dsimp only [cxOf]
      wtm_at "x"
      intro f hf
      have nfp : f ≠ p := (ne_of_none hp hf).symm
      have nfc : f ≠ c := (ne_of_none hc hf).symm
      wtm_at "x"
      have e2 : Ext H (upd H f (.lst [])) := Only'.put0 Only'.refl hf
      have hf2 : (upd H f (.lst [])) f = some (.lst []) := upd_same
      generalize (upd H f (.lst [])) = H2 at *
      have hp2 := e2 p _ hp (by simp)
      have hc2 := e2 c _ hc (by simp)
      have gt2 : Good (RAt K) H2 ps ss := hg.ext PP e2 fun _ _ z => nomatch z
      have nff : f ∉ flat ps := fun z => by
        obtain ⟨o, e⟩ := hg.trk PP z
        rw [hf] at e
        cases e
      rw [← hlen] at q qf hz
      refine x_rForRev (k := ps.length) (by rw [pV_len, List.length_reverse]) (by omega) (fun i σ Hi => (∃ v2, σ = [some (.ref p), some (.ref f), v2]) ∧
          ((∃ (psi : List (Addr × Addr)) (ssi : List RSt) (outi : Row) (rest : List V), psi.length + i = ps.length ∧ Hi p = some (.ins (He.ga K "Reader") dx [("parts", .ref c), ("fault", .non)]) ∧ Hi c = some (.lst (pV psi.reverse ++ rest)) ∧ Good (RAt K) Hi psi ssi ∧ p ∉ flat psi ∧ c ∉ flat psi ∧ f ∉ flat psi ∧ ROks ssi ∧
              Hi f = some (.lst (iV outi)) ∧ Only' (p :: f :: flat ps) H2 Hi ∧ (∀ x, x ∈ flat psi → x ∈ flat ps ∨ H2 x = none) ∧ (outi ++ (rendAll psi.length ssi).1, (rendAll psi.length ssi).2) = rendAll ps.length ss) ∨
            ∃ (flt : Fault) (t : Addr), (rendAll ps.length ss).2 = some flt ∧ Hi p = some (.ins (He.ga K "Reader") dx [("parts", .ref c), ("fault", .ref t)]) ∧ Hi t = some (.tup (faultV flt)) ∧ H2 t = none ∧ Hi f = some (.lst (iV (rendAll ps.length ss).1)) ∧ Only' (p :: f :: flat ps) H2 Hi))
        ⟨⟨_, rfl⟩, Or.inl ⟨ps, ss, [], [], rfl, hp2, by rw [List.append_nil]; exact hc2, gt2, np, nc, nff, hk, hf2, Only'.refl, fun x hx => Or.inl hx, rfl⟩⟩ ?_ ?_
      · rintro i σ Hi hi ⟨⟨v2, rfl⟩, h | ⟨flt, t, hflt, hpi, hti, ht0, hfi, o⟩⟩
        · obtain ⟨psi, ssi, outi, rest, hli, hpi, hci, gi, npi, nci, nfi, hki, hfi, oi, oldi, eo⟩ := h
          cases psi with
          | nil => simp at hli; omega
          | cons pl pst =>
          cases ssi with
          | nil =>
            have := gi.len
            simp at this
          | cons s0 sst =>
          obtain ⟨p0, l0⟩ := pl
          obtain ⟨gt, np0, nl0, ne0⟩ := gi.tail
          have hn : ps.length - 1 - i = pst.length := by
            rw [List.length_cons] at hli
            omega
          rw [hn]
          have hcl : Hi c = some (.lst (pV pst.reverse ++ (V.ref p0 :: rest))) := by
            rw [hci]
            unfold pV
            simp
          have npt : p ∉ flat pst := fun z => npi (List.mem_cons_of_mem _ (List.mem_cons_of_mem _ z))
          have nct : c ∉ flat pst := fun z => nci (List.mem_cons_of_mem _ (List.mem_cons_of_mem _ z))
          have nft : f ∉ flat pst := fun z => nfi (List.mem_cons_of_mem _ (List.mem_cons_of_mem _ z))
          have npp : p ≠ p0 ∧ p ≠ l0 := by
            have : p ∉ p0 :: l0 :: flat pst := npi
            simp at this
            exact ⟨this.1, this.2.1⟩
          have ncc : c ≠ p0 ∧ c ≠ l0 := by
            have : c ∉ p0 :: l0 :: flat pst := nci
            simp at this
            exact ⟨this.1, this.2.1⟩
          have nff2 : f ≠ p0 ∧ f ≠ l0 := by
            have : f ∉ p0 :: l0 :: flat pst := nfi
            simp at this
            exact ⟨this.1, this.2.1⟩
          have hk0 : ROk s0 := hki s0 (List.mem_cons_self ..)
          have hkt : ROks sst := fun x hx => hki x (List.mem_cons_of_mem _ hx)
          rw [List.length_cons, rendAll_more] at eo
          have hln : (rclose pst.length s0 sst).1.length ≤ 16777216 ∧ outi.length + (rclose pst.length s0 sst).1.length ≤ 16777216 := by
            rw [← eo] at hz
            cases hro : rclose pst.length s0 sst with
            | mk o1 r1 =>
              obtain ⟨ss1, fl⟩ := r1
              rw [hro] at hz
              cases fl <;> simp only [List.length_append] at hz <;> exact ⟨by dsimp only; omega, by dsimp only; omega⟩
          have onw : ∀ x, x ∈ flat ((p0, l0) :: pst) → x ∈ p :: f :: flat ps ∨ H2 x = none := fun x hx => (oldi x hx).imp (fun z => List.mem_cons_of_mem _ (List.mem_cons_of_mem _ z)) id
          wtm_at "x"
          refine ite_d (fun _ => ?_) fun hne => absurd rfl hne
          wtm_at "x"
          refine ⟨pst.length, p, c, dx, p0, l0, rest, pst, s0, sst, rfl, hpi, hcl, gi, rfl, by rw [List.length_cons] at hli; omega, npi, nci, hki, hln.1, fun hno H3 r3 ps3 st3 hr3 hr30 nr3 => ?_, fun flt hflt H3 r3 t3 hp3 ht3 ht30 hr30 hr3 o3 => ?_⟩
          · have hf3 : H3 f = some (.lst (iV outi)) := st3.only f _ hfi (by simp [nff2, nft])
            have hp3 := st3.only p _ hpi (by simp [npp, npt])
            have hc3 := st3.only c _ hcl (by simp [ncc, nct])
            refine x_nil ?_
            refine x_extend hf3 hr3 (by rw [iV_length, iV_length, sizeLine_eq]; exact hln.2) ?_
            have nf3 : f ∉ flat ps3 := st3.out hfi nft
            refine ⟨⟨_, rfl⟩, Or.inl ⟨ps3, (rclose pst.length s0 sst).2.1, outi ++ (rclose pst.length s0 sst).1, V.ref p0 :: rest, by rw [st3.len]; rw [List.length_cons] at hli; omega, upd_get nfp.symm hp3, ?_, ?_, st3.out hpi npt, st3.out hcl nct, nf3, (rclose_oks pst.length hk0 hkt).1, by rw [upd_same, iV_append], ?_, fun x hx => ?_, ?_⟩⟩
            · rw [upd_ne nfc.symm, hc3, pV_fst (ps := pst.reverse) (ps' := ps3.reverse) (by rw [List.map_reverse, List.map_reverse, st3.fst])]
            · exact st3.good.ext PP (Z := [f]) (Only'.put Only'.refl (List.mem_cons_self ..)) fun x hx z => nf3 (by rw [← List.mem_singleton.mp z]; exact hx)
            · refine ⟨fun y u hy hn2 => ?_, fun y u hy => ?_⟩
              · have y1 := oi y u hy hn2
                have nfy : y ≠ f := fun z => hn2 (by rw [z]; simp)
                refine upd_get nfy (st3.only y u y1 fun z => ?_)
                have zz : y ∈ flat ((p0, l0) :: pst) := z
                rcases onw y zz with w1 | w1
                · exact hn2 w1
                · rw [hy] at w1; cases w1
              · obtain ⟨u1, y1⟩ := oi.more y u hy
                obtain ⟨u2, y2⟩ := st3.only.more y u1 y1
                exact upd_more y2
            · rcases st3.old x hx with z | z
              · exact oldi x (List.mem_cons_of_mem _ (List.mem_cons_of_mem _ z))
              · exact Or.inr (oi.free z)
            · rw [← eo, st3.len]
              generalize rclose pst.length s0 sst = o at hno ⊢
              obtain ⟨o1, ss1, fl⟩ := o
              have hno' : fl = none := hno
              subst hno'
              dsimp only
              rw [List.append_assoc]
          · have hf3 : H3 f = some (.lst (iV outi)) := o3 f _ hfi (by
              have : f ∉ flat ((p0, l0) :: pst) := nfi
              simp [nfp, this])
            refine x_nil ?_
            refine x_extend hf3 hr3 (by rw [iV_length, iV_length, sizeLine_eq]; exact hln.2) ?_
            have et : t3 ≠ f := (ne_of_none hfi ht30).symm
            have eo3 : (rendAll ps.length ss).2 = some flt ∧ (rendAll ps.length ss).1 = outi ++ (rclose pst.length s0 sst).1 := by
              rw [← eo]
              generalize rclose pst.length s0 sst = o at hflt ⊢
              obtain ⟨o1, ss1, fl⟩ := o
              have hfl' : fl = some flt := hflt
              subst hfl'
              exact ⟨rfl, rfl⟩
            refine ⟨⟨_, rfl⟩, Or.inr ⟨flt, t3, eo3.1, upd_get nfp.symm hp3, upd_get et ht3, oi.free ht30, by rw [upd_same, eo3.2, iV_append], ⟨fun y u hy hn2 => ?_, fun y u hy => ?_⟩⟩⟩
            · have y1 := oi y u hy hn2
              have nfy : y ≠ f := fun z => hn2 (by rw [z]; simp)
              have npy : y ≠ p := fun z => hn2 (by rw [z]; simp)
              refine upd_get nfy (o3 y u y1 fun z => ?_)
              rcases List.mem_cons.mp z with z | z
              · exact npy z
              · rcases onw y z with w1 | w1
                · exact hn2 w1
                · rw [hy] at w1; cases w1
            · obtain ⟨u1, y1⟩ := oi.more y u hy
              obtain ⟨u2, y2⟩ := o3.more y u1 y1
              exact upd_more y2
        · wtm_at "x"
          exact ⟨⟨_, rfl⟩, Or.inr ⟨flt, t, hflt, hpi, hti, ht0, hfi, o⟩⟩
      · have fin : ∀ (Hi : Hp) (tp : Addr) (o : HO), Hi tp = none → Only' (p :: f :: flat ps) H2 Hi → Only' (p :: flat ps) H (upd Hi tp o) := fun Hi tp o htp oi => ⟨fun y u hy hn2 => by
          have y1 := e2 y u hy (by simp)
          have hn3 : y ≠ p ∧ y ∉ flat ps := by simpa using hn2
          exact upd_get (ne_of_none y1 (oi.free htp)) (oi y u y1 (by simp [hn3, ne_of_none hy hf])), fun y u hy => by
          obtain ⟨u1, y1⟩ := e2.more y u hy
          obtain ⟨u2, y2⟩ := oi.more y u1 y1
          exact upd_more y2⟩
        rintro σ Hi ⟨⟨v2, rfl⟩, h | ⟨flt, t, hflt, hpi, hti, ht0, hfi, o⟩⟩
        · obtain ⟨psi, ssi, outi, rest, hli, hpi, hci, gi, npi, nci, nfi, hki, hfi, oi, oldi, eo⟩ := h
          have h0 : psi.length = 0 := by omega
          rw [h0] at eo
          have eo2 : (outi, none) = rendAll ps.length ss := by
            rw [← eo]
            show ((outi, none) : Row × Option Fault) = (outi ++ [], none)
            rw [List.append_nil]
          wtm_at "x"
          intro tp htp
          rw [← eo2] at q
          exact q rfl _ tp f upd_same (keep hfi htp) (e2.free (oi.free htp)) hf (fin Hi tp _ htp oi)
        · wtm_at "x"
          intro tp htp
          exact qf flt hflt _ tp f t upd_same (keep hfi htp) (keep hti htp) (e2.free (o.free htp)) hf (e2.free ht0) (fin Hi tp _ htp o)
end
end Flow

namespace Flow
open PySem PySem.Spec PyProof.Rows L2
/-- a fault's value -/
def FltAt (H H' : Hp) (fv : V) : Option Fault → Prop
  | none => fv = .non
  | some flt => ∃ t, fv = .ref t ∧ H t = none ∧ H' t = some (.tup (faultV flt))
theorem FltAt.ext {H H1 H2 : Hp} {fv : V} {fo : Option Fault} (h : FltAt H H1 fv fo) (e : Ext H1 H2) : FltAt H H2 fv fo := by
  cases fo with
  | none => exact h
  | some flt =>
    obtain ⟨t, a, b, c⟩ := h
    exact ⟨t, a, b, e t _ c (by simp)⟩
theorem FltAt.pre {H0 H H1 : Hp} {fv : V} {fo : Option Fault} (h : FltAt H H1 fv fo) (e : ∀ a, H a = none → H0 a = none) : FltAt H0 H1 fv fo := by
  cases fo with
  | none => exact h
  | some flt =>
    obtain ⟨t, a, b, c⟩ := h
    exact ⟨t, a, e t b, c⟩
theorem readAll_of {lays : List Lay} {row : Row} : readAll lays row = (match rrow (lays.reverse.map newR) row with
    | (o, _, some x) => (o, some x)
    | (o, ss, none) => (o ++ (rendAll ss.length ss).1, (rendAll ss.length ss).2)) := rfl
def spRead (K : PySem.W.Frag) : Sp := fun vs H Q E => ∃ (a rw_ : Addr) (ls : List (Str × Row)) (row : Row), vs = [.ref a, .ref rw_] ∧ Handed K H a ls ∧ H rw_ = some (.lst (iV row)) ∧ Bys row ∧
  (∀ lays : List Lay, ls = lays.map rawOf → (∀ ly, ly ∈ lays → ly.Ok) → lays.length ≤ 8 → (readAll lays row).1.length ≤ 16777216 ∧
    ∀ (H' : Hp) (tp r : Addr) (fv : V), Ext H H' → H tp = none → H r = none → H' tp = some (.tup [.ref r, fv]) → H' r = some (.lst (iV (readAll lays row).1)) → FltAt H H' fv (readAll lays row).2 → Q (.ref tp) H') ∧
  (goodAll ls = false → ∀ H', Ext H H' → E (.ref (He.ga K "BadLayer")) none H')
section
variable {P : Program} {w : World} {K : PySem.W.Frag} {mg : Str → Option Value} {base : Heap}
theorem ok_read (T : Tx K mg) : DefOk P w K mg base 17 (He.ga K "read") ["layers", "row"] (spRead K) := by
  have D_Reader : MakeOk P w K mg base 4 (He.ga K "Reader") _ _ := ⟨_, mk_Reader T, ok_Reader_init T⟩
  have M_Reader_take := meth1 (cl_Reader T) (me_Reader_take T) (ok_Reader_take (P := P) (w := w) (base := base) T)
  have M_Reader_end := meth1 (cl_Reader T) (me_Reader_end T) (ok_Reader_end (P := P) (w := w) (base := base) T)
  refine def_ok (N := n_read) (fn_read T) sc_read (fun _ _ _ _ _ _ us hl => match us, hl with | [_, _], _ => rfl) (fun vs H Q E h => ?_) (fun cdv A outer s H vs Q E hr h => ?_)
  · obtain ⟨a, rw_, ls, row, rfl, _⟩ := h
    rfl
  · obtain ⟨a, rw_, ls, row, rfl, hh, hrw, hby, qg, qb⟩ := h
    refine ⟨_, [_, _, _, _, _], (pss_cons (ps_set (i := 2) sc_read.nd rfl (Or.inl rfl) (pe_mk D_Reader (g_Reader T) (hr.mono (by first | decide | omega)) (fun σ => passAt (takes_of rfl rfl rfl rfl) σ) (pa_cons (pv 0) pa_nil)))
      (pss_cons (ps_set (i := 3) sc_read.nd rfl (Or.inl rfl) (pe_mm M_Reader_take (hr.mono (by first | decide | omega)) (fun _ => passE) (pv 2) (pa_cons (pv 1) pa_nil)))
      (pss_cons (ps_set (i := 4) sc_read.nd rfl (Or.inl rfl) (pe_mm0 M_Reader_end (hr.mono (by first | decide | omega)) (fun _ => passE) (pv 2)))
      (pss_one (ps_ret (pe_tup (pa_cons (pe_op op_cat (pe_ix ix_tup (pv 3) pe_int (fun _ _ => rfl)) (pe_ix ix_tup (pv 4) pe_int (fun _ _ => rfl))) (pa_cons (pe_ix ix_tup (pv 4) pe_int (fun _ _ => rfl)) pa_nil)))))))), rfl, ?_⟩
    try dsimp only [cxOf]
    wtm_at "x"
    intro x dx nx ndx ne
    have e0 : Ext H (upd (upd H dx (.own x)) x (.ins (He.ga K "Reader") dx [])) := (Only'.put0 Only'.refl ndx).put0 nx
    refine ⟨x, dx, a, ls, rfl, upd_same, by rw [upd_ne ne, upd_same], hh.ext e0, fun lays el oks few H1 c ps hR hc hfr ho => ⟨rfl, ?_⟩, fun hg H1 e1 => qb hg H1 (e0.trans e1)⟩
    obtain ⟨hz, q⟩ := qg lays el oks few
    rw [readAll_of] at hz q
    generalize lays.reverse.map newR = ss at *
    have e1 : Ext H H1 := by
      refine ⟨fun b u hb _ => ?_, fun b u hb => ?_⟩
      · exact ho b u (e0 b u hb (by simp)) (by simp; exact ne_of_none hb nx)
      · obtain ⟨u1, h1⟩ := e0.more b u hb
        exact ho.more b u1 h1
    have hnone : ∀ y, y ∈ flat ps → H y = none := fun y hy => (upd_none (upd_none (hfr y hy)).2).2
    have hx1 := hR.ob
    have hrw1 := e1 rw_ _ hrw (by simp)
    have nrw : rw_ ∉ flat ps := fun z => by
      rw [hnone _ z] at hrw
      cases hrw
    wtm_at "x"
    refine Or.inr ⟨x, c, dx, rw_, ps, ss, row, rfl, hR, SqL.of hrw1, nrw, hby, ?_, fun hno H2 tp r ps2 st2 hR2 htp hr htp0 hr0 nr2 ntp2 => ?_, fun flt hflt H2 tp r t hF htp hr htp0 hr0 ht0 o2 => ?_⟩
    · generalize rrow ss row = o at hz
      obtain ⟨o1, ss1, fl⟩ := o
      cases fl with
      | none =>
        simp only [List.length_append] at hz
        show o1.length ≤ _
        omega
      | some flt => exact hz
    · generalize rrow ss row = o at *
      obtain ⟨o1, ss1, fl⟩ := o
      have hno' : fl = none := hno
      subst hno'
      dsimp only at *
      have hx2 := hR2.ob
      have nxr : x ≠ r := ne_of_none hx1 hr0
      have nxt : x ≠ tp := ne_of_none hx1 htp0
      wtm_at "x"
      have e2 : Ext H H2 := ⟨fun b u hb _ => st2.only b u (e1 b u hb (by simp)) (by
        simp only [List.nil_append]
        intro z
        rw [hnone b z] at hb
        cases hb), fun b u hb => by
        obtain ⟨u1, h1⟩ := e1.more b u hb
        exact st2.only.more b u1 h1⟩
      have hold : ∀ y, y ∈ x :: flat ps2 → H y = none := fun y hy => by
        rcases List.mem_cons.mp hy with z | z
        · rw [z]; exact nx
        · rcases st2.old y z with z | z
          · exact hnone y z
          · exact e1.free z
      have e3 : ∀ H3, Only' (x :: flat ps2) H2 H3 → Ext H H3 := fun H3 o3 => ⟨fun b u hb _ => o3 b u (e2 b u hb (by simp)) (fun z => by
        rw [hold b z] at hb
        cases hb), fun b u hb => by
        obtain ⟨u1, h1⟩ := e2.more b u hb
        exact o3.more b u1 h1⟩
      rw [List.length_append] at hz
      refine Or.inr ⟨x, c, dx, ps2, ss1, rfl, hR2, by omega, fun hno3 H3 tp3 r3 htp3 hr3 htp30 hr30 o3 => ?_, fun flt hflt H3 tp3 r3 t3 htp3 hr3 ht3 htp30 hr30 ht30 o3 => ?_⟩
      · have htp' := o3 tp _ htp (by simp [nxt.symm, ntp2])
        have hr' := o3 r _ hr (by simp [nxr.symm, nr2])
        wtm_at "x"
        refine x_ixT (SqT.of htp') (at_of (j := 0) rfl rfl) ?_
        wtm_at "x"
        refine x_ixT (SqT.of htp3) (at_of (j := 0) rfl rfl) ?_
        refine x_cat hr' hr3 (by rw [iV_length, iV_length, sizeLine_eq]; exact hz) fun r4 hr4 => ?_
        wtm_at "x"
        refine x_ixT (SqT.of (keep htp3 hr4)) (at_of (j := 1) rfl rfl) ?_
        wtm_at "x"
        intro tp5 htp5
        have e4 := (e3 H3 o3).new (o := .lst (iV o1 ++ iV (rendAll ss1.length ss1).1)) hr4
        refine q _ tp5 r4 .non (e4.new htp5) (e4.free htp5) ((e3 H3 o3).free hr4) upd_same (keep ?_ htp5) ?_
        · rw [upd_same, iV_append]
        · rw [hno3]
          rfl
      · have htp' := o3 tp _ htp (by simp [nxt.symm, ntp2])
        have hr' := o3 r _ hr (by simp [nxr.symm, nr2])
        wtm_at "x"
        refine x_ixT (SqT.of htp') (at_of (j := 0) rfl rfl) ?_
        wtm_at "x"
        refine x_ixT (SqT.of htp3) (at_of (j := 0) rfl rfl) ?_
        refine x_cat hr' hr3 (by rw [iV_length, iV_length, sizeLine_eq]; exact hz) fun r4 hr4 => ?_
        wtm_at "x"
        refine x_ixT (SqT.of (keep htp3 hr4)) (at_of (j := 1) rfl rfl) ?_
        wtm_at "x"
        intro tp5 htp5
        have e4 := (e3 H3 o3).new (o := .lst (iV o1 ++ iV (rendAll ss1.length ss1).1)) hr4
        refine q _ tp5 r4 (.ref t3) (e4.new htp5) (e4.free htp5) ((e3 H3 o3).free hr4) upd_same (keep ?_ htp5) ?_
        · rw [upd_same, iV_append]
        · rw [hflt]
          exact ⟨t3, rfl, e2.free ht30, keep (keep ht3 hr4) htp5⟩
    · generalize rrow ss row = o at *
      obtain ⟨o1, ss1, fl⟩ := o
      have hfl : fl = some flt := hflt
      subst hfl
      dsimp only at *
      have hx2 := hF.ob
      have hcl := hR.cl
      have nxc : c ∉ x :: flat ps := fun z => by
        rcases List.mem_cons.mp z with z | z
        · rw [z, hx1] at hcl
          cases hcl
        · exact hR.nc z
      have hc2 := o2 c _ hcl nxc
      wtm_at "x"
      have e2 : Ext H H2 := ⟨fun b u hb _ => o2 b u (e1 b u hb (by simp)) (fun z => by
        rcases List.mem_cons.mp z with z | z
        · rw [z, nx] at hb
          cases hb
        · rw [hnone b z] at hb
          cases hb), fun b u hb => by
        obtain ⟨u1, h1⟩ := e1.more b u hb
        exact o2.more b u1 h1⟩
      refine Or.inl ⟨x, c, dx, t, ps.length, flt, rfl, hF, ⟨_, hc2, by rw [pV_len, List.length_reverse], hR.few⟩, fun H3 tp3 r3 e3 htp3 hr3 htp30 hr30 => ?_⟩
      have htp' := e3 tp _ htp (by simp)
      have hr' := e3 r _ hr (by simp)
      wtm_at "x"
      refine x_ixT (SqT.of htp') (at_of (j := 0) rfl rfl) ?_
      wtm_at "x"
      refine x_ixT (SqT.of htp3) (at_of (j := 0) rfl rfl) ?_
      refine x_cat (ys := iV []) hr' hr3 (by rw [iV_length, iV_length, sizeLine_eq]; simpa using hz) fun r4 hr4 => ?_
      wtm_at "x"
      refine x_ixT (SqT.of (keep htp3 hr4)) (at_of (j := 1) rfl rfl) ?_
      wtm_at "x"
      intro tp5 htp5
      have e4 := ((e2.trans e3)).new (o := .lst (iV o1 ++ iV [])) hr4
      refine q _ tp5 r4 (.ref t) (e4.new htp5) (e4.free htp5) ((e2.trans e3).free hr4) upd_same (keep ?_ htp5) ?_
      · rw [upd_same, ← iV_append, List.append_nil]
      · exact ⟨t, rfl, e1.free ht0, keep (keep (e3 t _ hF.fl (by simp)) hr4) htp5⟩
end
end Flow

namespace Flow
open PySem PySem.Spec PyProof.Rows L2
/-! ### a row cut into pieces; what a reader tells -/
structure Pieces (H0 H : Hp) (ts : List Addr) (ps : List Row) : Prop where
  len : ts.length = ps.length
  at_ : ∀ (i : Nat) (t : Addr) (p : Row), ts[i]? = some t → ps[i]? = some p → H t = some (.lst (iV p))
  new : ∀ t, t ∈ ts → H0 t = none
theorem Pieces.ext {H0 H H' : Hp} {ts : List Addr} {ps : List Row} (m : Pieces H0 H ts ps) (e : ∀ t o, t ∈ ts → H t = some o → H' t = some o) : Pieces H0 H' ts ps :=
  ⟨m.len, fun i t p h1 h2 => e t _ (List.mem_of_getElem? h1) (m.at_ i t p h1 h2), m.new⟩
theorem Pieces.snoc {H0 H : Hp} {ts : List Addr} {ps : List Row} {t : Addr} {p : Row} (m : Pieces H0 H ts ps) (h : H t = some (.lst (iV p))) (n : H0 t = none) : Pieces H0 H (ts ++ [t]) (ps ++ [p]) := by
  refine ⟨by rw [List.length_append, List.length_append, m.len]; rfl, fun i u l h1 h2 => ?_, fun u hu => ?_⟩
  · by_cases hi : i < ts.length
    · rw [List.getElem?_append_left hi] at h1
      rw [List.getElem?_append_left (by rw [← m.len]; exact hi)] at h2
      exact m.at_ i u l h1 h2
    · rw [List.getElem?_append_right (by omega)] at h1
      rw [List.getElem?_append_right (by rw [← m.len]; omega), ← m.len] at h2
      cases hd : i - ts.length with
      | zero =>
        rw [hd] at h1 h2
        have e1 : t = u := Option.some.inj h1
        have e2 : p = l := Option.some.inj h2
        subst e1 e2
        exact h
      | succ j =>
        rw [hd] at h1
        cases h1
  · rcases List.mem_append.mp hu with z | z
    · exact m.new u z
    · rw [List.mem_singleton.mp z]; exact n
def spLawCuts (K : PySem.W.Frag) : Sp := fun vs H Q _ => ∃ (a : Addr) (s : Row) (k : Int) (rw_ : Addr) (row : Row), vs = [.ref a, .int k, .ref rw_] ∧ SqL K H a (iV s) ∧ H rw_ = some (.lst (iV row)) ∧ row.length ≤ 8000000 ∧
  ∀ (ps : List Row) (ts : List Addr) (H' : Hp) (r : Addr), ps.flatten = row → Ext H H' → H r = none → H' r = some (.lst (ts.map V.ref)) → Pieces H H' ts ps → Q (.ref r) H'
def spIsTold (K : PySem.W.Frag) : Sp := fun vs H Q _ => ∃ (tp r : Addr) (fv : V) (row : Row), vs = [.ref tp] ∧ H tp = some (.tup [.ref r, fv]) ∧ H r = some (.lst (iV row)) ∧ Bys row ∧ row.length ≤ 16777216 ∧
  (fv = .non ∨ ∃ (t : Addr) (flt : Fault), fv = .ref t ∧ H t = some (.tup (faultV flt))) ∧ ∀ H', Ext H H' → Q (.bl true) H'
theorem faultV_tail (flt : Fault) : ∃ ys : Row, 1 ≤ (faultV flt).length ∧ (faultV flt).drop 1 = iV ys ∧ ys.length ≤ 2 := by
  cases flt with
  | wrong a b => exact ⟨[a, b], by simp [faultV], rfl, by simp⟩
  | cut a => exact ⟨[a], by simp [faultV], rfl, by simp⟩
section
variable {P : Program} {w : World} {K : PySem.W.Frag} {mg : Str → Option Value} {base : Heap}
theorem ok_law_cuts (T : Tx K mg) : DefOk P w K mg base 3 (He.ga K "_law_cuts") ["_law_script", "_law_k", "_law_row_here"] (spLawCuts K) := by
  have D_law_mix := ok_law_mix (P := P) (w := w) (base := base) T
  refine def_ok (N := n_law_cuts) (fn_law_cuts T) sc_law_cuts (fun _ _ _ _ _ _ us hl => match us, hl with | [_, _, _], _ => rfl) (fun vs H Q E h => ?_) (fun cdv A outer s H vs Q E hr h => ?_)
  · obtain ⟨a, s, k, rw_, row, rfl, _⟩ := h
    rfl
  · obtain ⟨a, s, k, rw_, row, rfl, hs, hrw, hz, q⟩ := h
    refine ⟨_, [_, _, _, _, _, _], (pss_cons (ps_set (i := 3) sc_law_cuts.nd rfl (Or.inl rfl) (pe_lst pa_nil))
      (pss_cons (ps_set (i := 4) sc_law_cuts.nd rfl (Or.inl rfl) pe_int)
      (pss_cons (ps_while (passes_of rfl) (pt_cmpR op_lt (pv 4) (pe_callB call_lenS rfl (f_len T) (by decide +kernel) (pa_cons (pv 2) pa_nil)) (nomark _)) (pss_cons (ps_set (i := 5) sc_law_cuts.nd rfl (Or.inl rfl) (pe_ix ix_list (pe_lst (pa_cons pe_int (pa_cons pe_int (pa_cons pe_int (pa_cons pe_int (pa_cons pe_int (pa_cons pe_int pa_nil))))))) (pe_op op_mod (pe_op op_fdivN (pe_fn D_law_mix (g_law_mix T) (hr.mono (by first | decide | omega)) (fun _ => passE) (pa_cons (pv 0) (pa_cons (pe_op op_add (pv 1) (pe_op op_mod (pe_callB call_lenS rfl (f_len T) (by decide +kernel) (pa_cons (pv 3) pa_nil)) pe_int)) pa_nil))) (pe_op op_add pe_int (pe_callB call_lenS rfl (f_len T) (by decide +kernel) (pa_cons (pv 3) pa_nil)))) pe_int) (fun _ _ => rfl)))
      (pss_cons (ps_set (i := 5) sc_law_cuts.nd rfl (Or.inl rfl) (pe_callB (call_max2S rfl) rfl (f_max T) (by decide +kernel) (pa_cons (pv 5) (pa_cons (pe_op op_mod (pe_callB call_lenS rfl (f_len T) (by decide +kernel) (pa_cons (pv 3) pa_nil)) pe_int) pa_nil))))
      (pss_cons (ps_expr (pe_bm PySem.F.plainAttrs_list PySem.F.slot_list_append PySem.F.type_list_append mt_append (pv 3) (pa_cons (pe_slice sl_list (pv 2) (po_some (pv 4)) (po_some (pe_op op_add (pv 4) (pv 5)))) pa_nil)))
      (pss_one (ps_set (i := 4) sc_law_cuts.nd rfl (Or.inl rfl) (pe_op op_add (pv 4) (pv 5))))))))
      (pss_one (ps_ret (pv 3)))))), rfl, ?_⟩
    try dsimp only [cxOf]
    wtm_at "x"
    intro f hf
    wtm_at "x"
    refine x_while (fun m σ H' => ∃ (ts : List Addr) (ps : List Row) (at_ : Nat) (v5 : Option V), σ = [some (.ref a), some (.int k), some (.ref rw_), some (.ref f), some (.int (at_ : Int)), v5] ∧ H' f = some (.lst (ts.map V.ref)) ∧ Ext H H' ∧ Pieces H H' ts ps ∧
        ps.flatten = row.take at_ ∧ ts.length ≤ 2 * at_ + ts.length % 2 ∧ (∀ t, t ∈ ts → t ≠ f) ∧ m = 2 * (row.length - at_) + (1 - ts.length % 2)) _
      ⟨[], [], 0, none, rfl, upd_same, Only'.put0 Only'.refl hf, ⟨rfl, fun i t p h => by simp at h, fun _ h => nomatch h⟩, rfl, by simp, (fun _ h => nomatch h), rfl⟩ ?_
    rintro m σ H' ⟨ts, ps, at_, v5, rfl, hf', e, hP, hfl, hcnt, hne, rfl⟩
    have hrw' := e rw_ _ hrw (by simp)
    wtm_at "x"
    refine ite_d (fun hlt => ?_) fun hge => ?_
    · rw [iV_length] at hlt
      refine ⟨_, fun σ' H'' h => h, ?_⟩
      wtm_at "x"
      intro p1 hp1
      have e1 := e.new (o := .lst [V.int 0, V.int 1, V.int 1, V.int 2, V.int 7, V.int 300]) hp1
      have hf1 := keep (o := .lst [V.int 0, V.int 1, V.int 1, V.int 2, V.int 7, V.int 300]) hf' hp1
      have hrw1 := keep (o := .lst [V.int 0, V.int 1, V.int 1, V.int 2, V.int 7, V.int 300]) hrw' hp1
      have hP1 : Pieces H (upd H' p1 (.lst [V.int 0, V.int 1, V.int 1, V.int 2, V.int 7, V.int 300])) ts ps := hP.ext fun t o _ h => keep h hp1
      have hp1' : (upd H' p1 (.lst [V.int 0, V.int 1, V.int 1, V.int 2, V.int 7, V.int 300])) p1 = some (.lst (iV [0, 1, 1, 2, 7, 300])) := upd_same
      generalize (upd H' p1 (.lst [V.int 0, V.int 1, V.int 1, V.int 2, V.int 7, V.int 300])) = H1 at *
      wtm_at "x"
      refine ⟨a, s, _, rfl, SqL.ext e1 hs, ?_⟩
      have hml := lmix_in s (k + ((ts.map V.ref).length : Int) % 29)
      generalize lmix s (k + ((ts.map V.ref).length : Int) % 29) = nn at *
      have hln : (ts.map V.ref).length = ts.length := List.length_map ..
      wtm_at "x"
      rw [fdiv_pos (show (0 : Int) ≤ 1 + ((ts.map V.ref).length : Int) by omega)]
      wtm_at "x"
      refine x_ixI [0, 1, 1, 2, 7, 300] hp1' (by omega) (by show _ < (6 : Int); omega) fun b hb => ?_
      have hbb : 0 ≤ b ∧ b ≤ 300 := by
        simp only [List.mem_cons, List.not_mem_nil, or_false] at hb
        omega
      wtm_at "x"
      rw [hln]
      obtain ⟨mm, hmm, hmm2, hmm3⟩ : ∃ mm : Nat, (if (ts.length : Int) % 2 > b then (ts.length : Int) % 2 else b) = (mm : Int) ∧ (ts.length % 2 = 1 → 1 ≤ mm) ∧ mm ≤ 300 := by
        refine ⟨(if (ts.length : Int) % 2 > b then (ts.length : Int) % 2 else b).toNat, ?_, ?_, ?_⟩ <;> split <;> omega
      rw [hmm]
      wtm_at "x"
      intro l hl
      have hfl' := keep (o := .lst (cutV (iV row) (some (at_ : Int)) (some ((at_ : Int) + mm)))) hf1 hl
      refine x_nil ?_
      refine x_append hfl' (by rw [hln, sizeLine_eq]; omega) ?_
      wtm_at "x"
      have ec : cutV (iV row) (some (at_ : Int)) (some ((at_ : Int) + mm)) = iV ((row.drop at_).take mm) := by
        rw [cut_both rfl (k := at_ + mm) (by omega)]
        unfold iV
        rw [← List.map_drop, ← List.map_take]
        rw [show at_ + mm - at_ = mm by omega]
      have nlf : l ≠ f := (ne_of_none hf1 hl).symm
      have e2 := (e1.new (o := .lst (cutV (iV row) (some (at_ : Int)) (some ((at_ : Int) + mm)))) hl).put0 (o := .lst (ts.map V.ref ++ [V.ref l])) hf
      refine ⟨_, ?_, ts ++ [l], ps ++ [(row.drop at_).take mm], at_ + mm, _, by rw [Int.natCast_add], by rw [upd_same, List.map_append]; rfl, e2, ?_, ?_, ?_, ?_, rfl⟩
      · rw [List.length_append, List.length_singleton]
        omega
      · refine Pieces.snoc (hP1.ext fun t o ht h => upd_get (hne t ht) (keep h hl)) ?_ (e1.free hl)
        rw [upd_ne nlf, upd_same, ec]
      · rw [List.flatten_append, hfl, List.flatten_singleton, ← List.take_add]
      · rw [List.length_append, List.length_singleton]
        omega
      · intro t ht
        rcases List.mem_append.mp ht with z | z
        · exact hne t z
        · rw [List.mem_singleton.mp z]; exact nlf
    · rw [iV_length] at hge
      wtm_at "x"
      exact q ps ts H' f (by rw [hfl, List.take_of_length_le (by omega)]) e hf hf' hP
end
end Flow

namespace Flow
open PySem PySem.Spec PyProof.Rows L2
/-! ### the laws' calls, with good layers -/
section
variable {K : PySem.W.Frag} {H : Hp} {Q : VK} {E : XK} {lays : List Lay} {row : Row} {r rr : Addr}
theorem x_written (hh : Handed K H r (lays.map rawOf)) (oks : ∀ ly, ly ∈ lays → ly.Ok) (few : lays.length ≤ 8) (hrr : SqL K H rr (iV row)) (hby : Bys row) (hlen : row.length ≤ 400)
    (q : ∀ (H' : Hp) (st : Addr), Ext H H' → H st = none → H' st = some (.lst (iV (written lays row))) → Q (.ref st) H') : spWritten K [.ref r, .ref rr] H Q E := by
  refine ⟨r, rr, lays.map rawOf, row, rfl, hh, hrr, hby, fun lays2 el oks2 few2 => ?_, fun hg => ?_⟩
  · have e := raw_inj el.symm
    subst e
    obtain ⟨f1, f2, f3⟩ := written_fits oks few hby hlen
    exact ⟨f1, f2, f3, fun H' st e h0 h1 => q H' st e h0 h1⟩
  · rw [good_of_lays oks few] at hg
    cases hg
theorem x_read (hh : Handed K H r (lays.map rawOf)) (oks : ∀ ly, ly ∈ lays → ly.Ok) (few : lays.length ≤ 8) (hrr : H rr = some (.lst (iV row))) (hby : Bys row) (hlen : (readAll lays row).1.length ≤ 16777216)
    (q : ∀ (H' : Hp) (tp r : Addr) (fv : V), Ext H H' → H tp = none → H r = none → H' tp = some (.tup [.ref r, fv]) → H' r = some (.lst (iV (readAll lays row).1)) → FltAt H H' fv (readAll lays row).2 → Q (.ref tp) H') : spRead K [.ref r, .ref rr] H Q E := by
  refine ⟨r, rr, lays.map rawOf, row, rfl, hh, hrr, hby, fun lays2 el oks2 few2 => ?_, fun hg => ?_⟩
  · have e := raw_inj el.symm
    subst e
    exact ⟨hlen, q⟩
  · rw [good_of_lays oks few] at hg
    cases hg
theorem x_mkWriter {Q : Addr → Hp → Prop} (hh : Handed K H r (lays.map rawOf)) (oks : ∀ ly, ly ∈ lays → ly.Ok) (few : lays.length ≤ 8)
    (q : ∀ (H1 : Hp) (x c : Addr) (ps : List (Addr × Addr)), WriterAt K H1 x c ps (lays.map newW) → H x = none → H c = none → (∀ y, y ∈ flat ps → H y = none) → Ext H H1 → Q x H1) :
    ∀ x dx, H x = none → H dx = none → dx ≠ x → spWriterInit K (.ref x :: [.ref r]) (upd (upd H dx (.own x)) x (.ins (He.ga K "Writer") dx [])) (fun v H2 => v = .non ∧ Q x H2) E := by
  intro x dx nx ndx ne
  have e0 : Ext H (upd (upd H dx (.own x)) x (.ins (He.ga K "Writer") dx [])) := (Only'.put0 Only'.refl ndx).put0 nx
  refine ⟨x, dx, r, lays.map rawOf, rfl, upd_same, by rw [upd_ne ne, upd_same], hh.ext e0, fun lays2 el oks2 few2 H1 c ps hW hc hfr ho => ⟨rfl, ?_⟩, fun hg => ?_⟩
  · have e := raw_inj el.symm
    subst e
    refine q H1 x c ps hW nx (upd_none (upd_none hc).2).2 (fun y hy => (upd_none (upd_none (hfr y hy)).2).2) ⟨fun b u hb _ => ?_, fun b u hb => ?_⟩
    · exact ho b u (e0 b u hb (by simp)) (by simp; exact ne_of_none hb nx)
    · obtain ⟨u1, h1⟩ := e0.more b u hb
      exact ho.more b u1 h1
  · rw [good_of_lays oks few] at hg
    cases hg
theorem x_mkReader {Q : Addr → Hp → Prop} (hh : Handed K H r (lays.map rawOf)) (oks : ∀ ly, ly ∈ lays → ly.Ok) (few : lays.length ≤ 8)
    (q : ∀ (H1 : Hp) (x dx c : Addr) (ps : List (Addr × Addr)), ReaderAt K H1 x c dx ps (lays.reverse.map newR) → H x = none → H c = none → (∀ y, y ∈ flat ps → H y = none) → Ext H H1 → Q x H1) :
    ∀ x dx, H x = none → H dx = none → dx ≠ x → spReaderInit K (.ref x :: [.ref r]) (upd (upd H dx (.own x)) x (.ins (He.ga K "Reader") dx [])) (fun v H2 => v = .non ∧ Q x H2) E := by
  intro x dx nx ndx ne
  have e0 : Ext H (upd (upd H dx (.own x)) x (.ins (He.ga K "Reader") dx [])) := (Only'.put0 Only'.refl ndx).put0 nx
  refine ⟨x, dx, r, lays.map rawOf, rfl, upd_same, by rw [upd_ne ne, upd_same], hh.ext e0, fun lays2 el oks2 few2 H1 c ps hW hc hfr ho => ⟨rfl, ?_⟩, fun hg => ?_⟩
  · have e := raw_inj el.symm
    subst e
    refine q H1 x dx c ps hW nx (upd_none (upd_none hc).2).2 (fun y hy => (upd_none (upd_none (hfr y hy)).2).2) ⟨fun b u hb _ => ?_, fun b u hb => ?_⟩
    · exact ho b u (e0 b u hb (by simp)) (by simp; exact ne_of_none hb nx)
    · obtain ⟨u1, h1⟩ := e0.more b u hb
      exact ho.more b u1 h1
  · rw [good_of_lays oks few] at hg
    cases hg
theorem ReaderAt.ext {H' : Hp} {p c dx : Addr} {ps : List (Addr × Addr)} {ss : List RSt} (w : ReaderAt K H p c dx ps ss) {Z : List Addr} (e : Only' Z H H') (h1 : p ∉ Z) (h2 : c ∉ Z) (h3 : ∀ x, x ∈ flat ps → x ∉ Z) : ReaderAt K H' p c dx ps ss :=
  ⟨e p _ w.ob h1, e c _ w.cl h2, w.good.ext (RAt_parts K) e h3, w.np, w.nc, w.ok, w.few⟩
theorem ReaderAt.ext0 {H' : Hp} {p c dx : Addr} {ps : List (Addr × Addr)} {ss : List RSt} (w : ReaderAt K H p c dx ps ss) (e : Ext H H') : ReaderAt K H' p c dx ps ss := w.ext e (by simp) (by simp) (by simp)
theorem WriterAt.ext0 {H' : Hp} {p c : Addr} {ps : List (Addr × Addr)} {ss : List WSt} (w : WriterAt K H p c ps ss) (e : Ext H H') : WriterAt K H' p c ps ss := w.ext e (by simp) (by simp) (by simp)
theorem ReaderAt.out {p c dx f : Addr} {ps : List (Addr × Addr)} {ss : List RSt} (w : ReaderAt K H p c dx ps ss) (h : H f = none) : f ∉ flat ps := fun z => by
  obtain ⟨o, e⟩ := w.good.trk (RAt_parts K) z
  rw [h] at e
  cases e
theorem WriterAt.out {p c f : Addr} {ps : List (Addr × Addr)} {ss : List WSt} (w : WriterAt K H p c ps ss) (h : H f = none) : f ∉ flat ps := fun z => by
  obtain ⟨o, e⟩ := w.good.trk (WAt_parts K) z
  rw [h] at e
  cases e
/-- what stood when the parts were made is none of them -/
theorem old_out {f : Addr} {o : HO} {ps : List (Addr × Addr)} (h : H f = some o) (n : ∀ y, y ∈ flat ps → H y = none) : f ∉ flat ps := fun z => by
  rw [n f z] at h
  cases h
theorem getD_at {lays : List Lay} {i : Nat} (h : i < lays.length) : lays[i]? = some (lays.getD i .front) := by
  rw [List.getElem?_eq_getElem h]
  simp [List.getD, h]
/-- what stands elsewhere stands -/
theorem ext_of {H' : Hp} {Z : List Addr} (o : Only' Z H H') (n : ∀ y, y ∈ Z → H y = none) : Ext H H' := ⟨fun b u hb _ => o b u hb fun z => (by
  rw [n b z] at hb
  cases hb), o.more⟩
theorem made_at {H0 : Hp} {ts : List Addr} {i : Nat} {x : V} (m : Made K H0 H ts lays) (h : (ts.map V.ref)[i]? = some x) : ∃ t, x = V.ref t ∧ i < lays.length ∧ H t = some (.tup (layV (lays.getD i .front))) := by
  rw [List.getElem?_map] at h
  cases e : ts[i]? with
  | none => rw [e] at h; cases h
  | some t =>
    rw [e] at h
    have hi : i < lays.length := by
      rw [← m.len]
      exact (List.getElem?_eq_some_iff.mp e).1
    exact ⟨t, (Option.some.inj h).symm, hi, m.at_ i t _ e (getD_at hi)⟩
theorem pieces_get {H0 : Hp} {ts : List Addr} {ps : List Row} {i : Nat} {x : V} (m : Pieces H0 H ts ps) (h : (ts.map V.ref)[i]? = some x) : ∃ t p, x = V.ref t ∧ t ∈ ts ∧ ps[i]? = some p ∧ H t = some (.lst (iV p)) := by
  rw [List.getElem?_map] at h
  cases e : ts[i]? with
  | none => rw [e] at h; cases h
  | some t =>
    rw [e] at h
    have hi : i < ps.length := by
      rw [← m.len]
      exact (List.getElem?_eq_some_iff.mp e).1
    have hp := List.getElem?_eq_getElem hi
    exact ⟨t, ps[i], (Option.some.inj h).symm, List.mem_of_getElem? e, hp, m.at_ i t _ e hp⟩
theorem bys_piece {ps : List Row} {i : Nat} {p : Row} (h : Bys ps.flatten) (hp : ps[i]? = some p) : Bys p := fun x hx => h x (List.mem_flatten.mpr ⟨p, List.mem_of_getElem? hp, hx⟩)
theorem wthru_nil : ∀ ss : List WSt, wthru ss [] = ([], ss)
  | [] => rfl
  | s :: ss => by
    show ((wthru ss []).1, s :: (wthru ss []).2) = _
    rw [wthru_nil ss]
theorem track {H1 H2 : Hp} {A Z : List Addr} (o : Only' Z H H1) (old : ∀ x, x ∈ A → x ∈ Z ∨ H x = none) (o2 : Only' A H1 H2) : Only' Z H H2 := ⟨fun b u hb n => o2 b u (o b u hb n) fun h => (by
  rcases old b h with g | g
  · exact n g
  · rw [hb] at g; cases g), fun b u hb => by
  obtain ⟨u1, h1⟩ := o.more b u hb
  exact o2.more b u1 h1⟩
theorem track_old {H1 : Hp} {A A' Z : List Addr} (o : Only' Z H H1) (old : ∀ x, x ∈ A → x ∈ Z ∨ H x = none) (h : ∀ x, x ∈ A' → x ∈ A ∨ H1 x = none) : ∀ x, x ∈ A' → x ∈ Z ∨ H x = none := fun x hx => by
  rcases h x hx with g | g
  · exact old x g
  · exact Or.inr (o.free g)
/-- a reader that is used once -/
theorem x_take0 {z cz dz l : Addr} {zs : List (Addr × Addr)} {ss : List RSt} (hR : ReaderAt K H z cz dz zs ss) (hl : H l = some (.lst (iV row))) (nl : l ∉ flat zs) (hby : Bys row) (hlen : (rrow ss row).1.length ≤ 16777216)
    (q : ∀ (H' : Hp) (tp r : Addr) (fv : V), Only' (z :: flat zs) H H' → H tp = none → H r = none → H' tp = some (.tup [.ref r, fv]) → H' r = some (.lst (iV (rrow ss row).1)) → FltAt H H' fv (rrow ss row).2.2 → Q (.ref tp) H') : spReaderTakeB K [.ref z, .ref l] H Q E := by
  refine Or.inr ⟨z, cz, dz, l, zs, ss, row, rfl, hR, SqL.of hl, nl, hby, hlen, fun hno H2 tp r qs2 st2 hR2 htp hr htp0 hr0 nr2 ntp2 => ?_, fun flt hflt H2 tp r t hF htp hr htp0 hr0 ht0 o2 => ?_⟩
  · refine q H2 tp r .non (st2.only.mono fun x hx => List.mem_cons_of_mem _ (by simpa using hx)) htp0 hr0 htp hr ?_
    rw [hno]
    rfl
  · refine q H2 tp r (.ref t) o2 htp0 hr0 htp hr ?_
    rw [hflt]
    exact ⟨t, rfl, ht0, hF.fl⟩
theorem FltAt.or {H' : Hp} {fv : V} {fo : Option Fault} (h : FltAt H H' fv fo) : fv = .non ∨ ∃ (t : Addr) (flt : Fault), fv = .ref t ∧ H' t = some (.tup (faultV flt)) := by
  cases fo with
  | none => exact Or.inl h
  | some flt =>
    obtain ⟨t, a, _, c⟩ := h
    exact Or.inr ⟨t, flt, a, c⟩
theorem ite_same {b : Bool} {t1 t2 : TS} {D : Ends} {σ : L2.St} (J : L2.St → Hp → Prop) (hJ : ∀ σ' H', J σ' H' → D.nx σ' H') (h : ∀ N : L2.St → Hp → Prop, (∀ σ' H', J σ' H' → N σ' H') → if b = true then t1 { D with nx := N } σ H else t2 { D with nx := N } σ H) :
    if b = true then t1 D σ H else t2 D σ H := h D.nx hJ
theorem seq_cut2 {s1 s2 rest : TS} {D : Ends} {σ : L2.St} (J : L2.St → Hp → Prop) (h2 : ∀ σ' H', J σ' H' → rest D σ' H') (h1 : ∀ R : TS, (∀ σ' H', J σ' H' → R D σ' H') → tSeq s1 (tSeq s2 R) D σ H) : tSeq s1 (tSeq s2 rest) D σ H := h1 rest h2
theorem seq_cut5 {s1 s2 s3 s4 s5 rest : TS} {D : Ends} {σ : L2.St} (J : L2.St → Hp → Prop) (h2 : ∀ σ' H', J σ' H' → rest D σ' H') (h1 : ∀ R : TS, (∀ σ' H', J σ' H' → R D σ' H') → tSeq s1 (tSeq s2 (tSeq s3 (tSeq s4 (tSeq s5 R)))) D σ H) : tSeq s1 (tSeq s2 (tSeq s3 (tSeq s4 (tSeq s5 rest)))) D σ H := h1 rest h2
/-! ### what a law holds: its script, layers, rows -/
structure LB (K : PySem.W.Frag) (H0 H : Hp) (a r rr st : Addr) (s : Row) (ts : List Addr) (lays : List Lay) (row str : Row) : Prop where
  hs : SqL K H a (iV s)
  hr : H r = some (.lst (ts.map V.ref))
  md : Made K H0 H ts lays
  hrr : H rr = some (.lst (iV row))
  hst : H st = some (.lst (iV str))
theorem LB.ext {H0 H' : Hp} {a r rr st : Addr} {s : Row} {ts : List Addr} {lays : List Lay} {row str : Row} (b : LB K H0 H a r rr st s ts lays row str) (e : Ext H H') : LB K H0 H' a r rr st s ts lays row str :=
  ⟨SqL.ext e b.hs, e r _ b.hr (by simp), b.md.ext e, e rr _ b.hrr (by simp), e st _ b.hst (by simp)⟩
/-! ### lists of layers and of words -/
theorem range_lays {α : Type} (f : Lay → α) : ∀ lays : List Lay, (List.range lays.length).map (fun i => f (lays.getD i .front)) = lays.map f := fun lays => by
  refine List.ext_getElem? fun i => ?_
  rw [List.getElem?_map, List.getElem?_map]
  by_cases h : i < lays.length
  · rw [List.getElem?_range h, List.getElem?_eq_getElem h]
    simp [List.getD, h]
  · rw [List.getElem?_eq_none (by rw [List.length_range]; omega), List.getElem?_eq_none (by omega)]
    rfl
def wordsV (lays : List Lay) : List V := lays.map fun ly => V.str (lkind ly)
def wordsD (lays : List Lay) : PyData := .list (lays.map fun ly => .str (lkind ly))
theorem lk_lkind (ly : Lay) : layD.lk ly = lkind ly := by cases ly <;> rfl
theorem words_lay : ∀ lays : List Lay, PyData.canLayAll0 (lays.map fun ly => PyData.str (lkind ly)) = true
  | [] => by simp [PyData.canLayAll0]
  | x :: r => by
    have h := lk_ok x
    rw [lk_lkind] at h
    simp [PyData.canLayAll0, PyData.canLay0, words_lay r, h]
theorem words_depth : ∀ lays : List Lay, PyData.depthAll (lays.map fun ly => PyData.str (lkind ly)) = 0
  | [] => by simp [PyData.depthAll]
  | x :: r => by simp [PyData.depthAll, PyData.depth, words_depth r]
theorem words_shaped (lays : List Lay) : SeqAt.shaped (wordsD lays) = true := shaped_of (by simp only [wordsD, PyData.canLay0]; exact words_lay lays) (by simp only [wordsD, PyData.depth]; rw [words_depth]; decide)
theorem words_refl : ∀ lays : List Lay, PyData.eqvAll (lays.map fun ly => PyData.str (lkind ly)) (lays.map fun ly => PyData.str (lkind ly)) = true
  | [] => by simp [PyData.eqvAll]
  | x :: r => by simp [PyData.eqvAll, PyData.eqv, words_refl r]
theorem words_eqv (lays : List Lay) : PyData.eqv (wordsD lays) (wordsD lays) = true := by
  simp only [wordsD, PyData.eqv]
  exact words_refl lays
theorem dp_words {a : Addr} (h : SqL K H a (wordsV lays)) : Dp K H (.ref a) (wordsD lays) := by
  refine .lst h ?_
  unfold wordsV
  clear h
  induction lays with
  | nil => exact .nil
  | cons x l ih => exact .cons (.str _) ih
/-! ### what is told, as data -/
def fltD : Option Fault → PyData
  | none => .none
  | some (.wrong a b) => .tuple [.str "wrong", .int a, .int b]
  | some (.cut a) => .tuple [.str "cut", .int a]
def toldD (row : Row) (fo : Option Fault) : PyData := .tuple [rowD row, fltD fo]
theorem flt_lay (fo : Option Fault) : (fltD fo).canLay0 = true := by
  cases fo with
  | none => simp [fltD, PyData.canLay0]
  | some f => cases f <;> (simp only [fltD, PyData.canLay0, PyData.canLayAll0]; decide +kernel)
theorem flt_depth (fo : Option Fault) : (fltD fo).depth ≤ 1 := by
  cases fo with
  | none => simp [fltD, PyData.depth]
  | some f => cases f <;> simp [fltD, PyData.depth, PyData.depthAll]
theorem told_shaped (row : Row) (fo : Option Fault) : SeqAt.shaped (toldD row fo) = true := by
  refine shaped_of ?_ ?_
  · simp only [toldD, PyData.canLay0, PyData.canLayAll0, flt_lay, rowD, lay_ints]
    rfl
  · have h := flt_depth fo
    simp only [toldD, PyData.depth, PyData.depthAll, rowD, depth_ints]
    omega
theorem flt_eqv (a b : Option Fault) : PyData.eqv (fltD a) (fltD b) = decide (a = b) := by
  cases a with
  | none =>
    cases b with
    | none => simp [fltD, PyData.eqv]
    | some f => cases f <;> simp [fltD, PyData.eqv]
  | some f =>
    cases b with
    | none => cases f <;> simp [fltD, PyData.eqv]
    | some g =>
      cases f with
      | wrong p q =>
        cases g with
        | wrong p' q' =>
          have e : PyData.eqv (fltD (some (.wrong p q))) (fltD (some (.wrong p' q'))) = ((p == p') && (q == q')) := by simp [fltD, PyData.eqv, PyData.eqvAll]
          rw [e]
          by_cases h1 : p = p' <;> by_cases h2 : q = q' <;> simp [h1, h2]
        | cut p' => simp [fltD, PyData.eqv, PyData.eqvAll]
      | cut p =>
        cases g with
        | wrong p' q' => simp [fltD, PyData.eqv, PyData.eqvAll]
        | cut p' =>
          have e : PyData.eqv (fltD (some (.cut p))) (fltD (some (.cut p'))) = (p == p') := by simp [fltD, PyData.eqv, PyData.eqvAll]
          rw [e]
          by_cases h1 : p = p' <;> simp [h1]
theorem told_eqv (r r' : Row) (f f' : Option Fault) : PyData.eqv (toldD r f) (toldD r' f') = (decide (r = r') && decide (f = f')) := by
  have e : PyData.eqv (toldD r f) (toldD r' f') = (PyData.eqv (rowD r) (rowD r') && PyData.eqv (fltD f) (fltD f')) := by simp [toldD, PyData.eqv, PyData.eqvAll]
  rw [e, row_eqv, flt_eqv]
theorem dp_flt {H0 : Hp} {fv : V} {fo : Option Fault} (h : FltAt H0 H fv fo) : Dp K H fv (fltD fo) := by
  cases fo with
  | none =>
    have e : fv = .non := h
    subst e
    exact .non
  | some f =>
    obtain ⟨t, rfl, _, ht⟩ := h
    cases f with
    | wrong a b => exact .tup (SqT.of ht) (.cons (.str _) (.cons (.int _) (.cons (.int _) .nil)))
    | cut a => exact .tup (SqT.of ht) (.cons (.str _) (.cons (.int _) .nil))
theorem dp_told {H0 : Hp} {tp l : Addr} {fv : V} {row : Row} {fo : Option Fault} (h : H tp = some (.tup [.ref l, fv])) (hl : H l = some (.lst (iV row))) (hf : FltAt H0 H fv fo) : Dp K H (.ref tp) (toldD row fo) :=
  .tup (SqT.of h) (.cons (dp_row (SqL.of hl)) (.cons (dp_flt hf) .nil))
end
end Flow

namespace Flow
open PySem PySem.Spec PyProof.Rows L2
/-! ### a stream that is changed -/
def spSpoiled (K : PySem.W.Frag) : Sp := fun vs H Q _ => ∃ (a : Addr) (s : Row) (k : Int) (rw_ : Addr) (row : Row), vs = [.ref a, .int k, .ref rw_] ∧ SqL K H a (iV s) ∧ H rw_ = some (.lst (iV row)) ∧ Bys row ∧ row.length ≤ 8000000 ∧
  ∀ (row' : Row) (H' : Hp) (r : Addr), Bys row' → row'.length ≤ row.length + 3 → Ext H H' → H' r = some (.lst (iV row')) → Q (.ref r) H'
theorem bys_take {r : Row} (h : Bys r) (n : Nat) : Bys (r.take n) := fun x hx => h x (List.mem_of_mem_take hx)
theorem bys_drop {r : Row} (h : Bys r) (n : Nat) : Bys (r.drop n) := fun x hx => h x (List.mem_of_mem_drop hx)
theorem cutI_to (r : Row) (n : Nat) : cutV (iV r) none (some (n : Int)) = iV (r.take n) := by
  rw [cut_to rfl]
  unfold iV
  rw [← List.map_take]
theorem cutI_from (r : Row) {i : Int} (n : Nat) (h : i = (n : Int)) : cutV (iV r) (some i) none = iV (r.drop n) := by
  rw [cut_from h]
  unfold iV
  rw [← List.map_drop]
/-- the last part, from the place ahead -/
theorem cutI_back (r : Row) (n : Nat) : ∃ k, cutV (iV r) (some ((n : Int) - 1)) none = iV (r.drop k) ∧ n ≤ k + 1 := by
  by_cases h : n = 0
  · subst h
    refine ⟨r.length - 1, ?_, by omega⟩
    have e := cut_fromN (xs := iV r) (k := 1) (Nat.le_refl 1)
    rw [iV_length] at e
    have e2 : ((0 : Nat) : Int) - 1 = -((1 : Nat) : Int) := by omega
    rw [e2, e]
    unfold iV
    rw [← List.map_drop]
  · exact ⟨n - 1, cutI_from r (n - 1) (by omega), by omega⟩
section
variable {P : Program} {w : World} {K : PySem.W.Frag} {mg : Str → Option Value} {base : Heap}
end
end Flow

namespace Flow
open PySem PySem.Spec PyProof.Rows L2
def spSpoilt (K : PySem.W.Frag) : Sp := fun vs H Q _ => ∃ (a : Addr) (s : Row) (k : Int) (rw_ : Addr) (row : Row), vs = [.ref a, .int k, .ref rw_] ∧ SqL K H a (iV s) ∧ H rw_ = some (.lst (iV row)) ∧ Bys row ∧ row.length ≤ 8000000 ∧
  ∀ (row' : Row) (H' : Hp) (r : Addr), Bys row' → row'.length ≤ row.length + 1 → bigc row' ≤ bigc row + 1 → Ext H H' → H' r = some (.lst (iV row')) → Q (.ref r) H'
theorem bigc_drop1 (r : Row) (n : Nat) : bigc (r.drop (n + 1)) ≤ bigc (r.drop n) := by
  rw [← List.drop_drop]
  exact bigc_drop _ _
section
variable {P : Program} {w : World} {K : PySem.W.Frag} {mg : Str → Option Value} {base : Heap}
theorem ok_law_spoilt (T : Tx K mg) : DefOk P w K mg base 3 (He.ga K "_law_spoilt") ["_law_script", "_law_k", "_law_stream"] (spSpoilt K) := by
  have D_law_mix := ok_law_mix (P := P) (w := w) (base := base) T
  refine def_ok (N := n_law_spoilt) (fn_law_spoilt T) sc_law_spoilt (fun _ _ _ _ _ _ us hl => match us, hl with | [_, _, _], _ => rfl) (fun vs H Q E h => ?_) (fun cdv A outer s H vs Q E hr h => ?_)
  · obtain ⟨a, s, k, rw_, row, rfl, _⟩ := h
    rfl
  · obtain ⟨a, s, k, p, ri, rfl, hs, hp, byi, hz, q⟩ := h
    refine ⟨_, [_, _, _, _, _, _, _], (pss_cons (ps_set (i := 3) sc_law_spoilt.nd rfl (Or.inl rfl) (pe_fn D_law_mix (g_law_mix T) (hr.mono (by first | decide | omega)) (fun _ => passE) (pa_cons (pv 0) (pa_cons (pv 1) pa_nil))))
      (pss_cons (ps_set (i := 4) sc_law_spoilt.nd rfl (Or.inl rfl) (pe_op op_modN (pe_op op_fdiv (pv 3) pe_int) (pe_op op_add (pe_callB call_lenS rfl (f_len T) (by decide +kernel) (pa_cons (pv 2) pa_nil)) pe_int)))
      (pss_cons (ps_set (i := 5) sc_law_spoilt.nd rfl (Or.inl rfl) (pe_ix ix_list (pe_lst (pa_cons (pe_op op_mod (pe_op op_fdiv (pv 3) pe_int) pe_int) (pa_cons pe_int (pa_cons pe_int (pa_cons pe_int pa_nil))))) (pe_op op_mod (pe_op op_fdiv (pv 3) pe_int) pe_int) (fun _ _ => rfl)))
      (pss_cons (ps_set (i := 6) sc_law_spoilt.nd rfl (Or.inl rfl) (pe_lst (pa_cons (pe_op op_cat (pe_op op_cat (pe_slice sl_list (pv 2) po_none (po_some (pv 4))) (pe_lst (pa_cons (pv 5) pa_nil))) (pe_slice sl_list (pv 2) (po_some (pe_op op_add (pv 4) pe_int)) po_none)) (pa_cons (pe_op op_cat (pe_slice sl_list (pv 2) po_none (po_some (pv 4))) (pe_slice sl_list (pv 2) (po_some (pe_op op_add (pv 4) pe_int)) po_none)) (pa_cons (pe_op op_cat (pe_op op_cat (pe_slice sl_list (pv 2) po_none (po_some (pv 4))) (pe_lst (pa_cons (pv 5) pa_nil))) (pe_slice sl_list (pv 2) (po_some (pv 4)) po_none)) pa_nil)))))
      (pss_one (ps_ret (pe_ix ix_list (pe_op op_cat (pv 6) (pe_lst (pa_cons (pe_slice sl_list (pv 2) po_none (po_some (pv 4))) (pa_cons (pv 2) (pa_cons (pv 2) pa_nil))))) (pe_op op_mod (pv 3) pe_int) (fun _ _ => rfl)))))))), rfl, ?_⟩
    try dsimp only [cxOf]
    wtm_at "x"
    refine ⟨a, s, k, rfl, hs, ?_⟩
    have mm := lmix_in s k
    generalize lmix s k = nn at *
    wtm_at "x"
    have emod : (nn / 8).fmod ((((iV ri).length : Nat) : Int) + 1) = nn / 8 % ((ri.length : Int) + 1) := by rw [iV_length, fmod_pos (by omega)]
    rw [emod]
    have i0 := Int.emod_nonneg (nn / 8) (show ((ri.length : Int) + 1) ≠ 0 by omega)
    have i1 := Int.emod_lt_of_pos (nn / 8) (show (0 : Int) < (ri.length : Int) + 1 by omega)
    obtain ⟨at_, hat⟩ : ∃ at_ : Nat, nn / 8 % ((ri.length : Int) + 1) = (at_ : Int) := ⟨(nn / 8 % ((ri.length : Int) + 1)).toNat, by omega⟩
    rw [hat] at i0 i1 ⊢
    have hat1 : at_ ≤ ri.length := by omega
    have lA : (ri.take at_).length = at_ := by rw [List.length_take]; omega
    have hA : Bys (ri.take at_) := bys_take byi _
    wtm_at "x"
    intro pb n_pb
    have e_pb : Ext H (upd H pb (.lst [V.int (nn / 4096 % 256), V.int 0, V.int 1, V.int 255])) := Only'.put0 Only'.refl n_pb
    have h_pb : (upd H pb (.lst [V.int (nn / 4096 % 256), V.int 0, V.int 1, V.int 255])) pb = some (.lst [V.int (nn / 4096 % 256), V.int 0, V.int 1, V.int 255]) := upd_same
    generalize (upd H pb (.lst [V.int (nn / 4096 % 256), V.int 0, V.int 1, V.int 255])) = H1 at *
    have hp1 := e_pb p _ hp (by simp)
    wtm_at "x"
    refine x_ixI [nn / 4096 % 256, 0, 1, 255] h_pb (by omega) (by show _ < (4 : Int); omega) fun b hb => ?_
    have hbb : By b := by
      simp only [List.mem_cons, List.not_mem_nil, or_false] at hb
      unfold By
      omega
    have bb : Bys [b] := bys_cons hbb bys_nil
    have gb := bigc_one b
    have gs := bigc_split ri at_
    have gd := bigc_drop1 ri at_
    wtm_at "x"
    rw [cutI_to]
    intro l1 n_l1
    have e_l1 : Ext H1 (upd H1 l1 (.lst (iV (ri.take at_)))) := Only'.put0 Only'.refl n_l1
    have h_l1 : (upd H1 l1 (.lst (iV (ri.take at_)))) l1 = some (.lst (iV (ri.take at_))) := upd_same
    generalize (upd H1 l1 (.lst (iV (ri.take at_)))) = H2 at *
    wtm_at "x"
    intro l2 n_l2
    have e_l2 : Ext H2 (upd H2 l2 (.lst [V.int b])) := Only'.put0 Only'.refl n_l2
    have h_l2 : (upd H2 l2 (.lst [V.int b])) l2 = some (.lst [V.int b]) := upd_same
    generalize (upd H2 l2 (.lst [V.int b])) = H3 at *
    refine x_cat (ys := iV [b]) (e_l2 l1 _ h_l1 (by simp)) h_l2 (by rw [iV_length, iV_length, sizeLine_eq, lA]; simp; omega) ?_
    rw [← iV_append]
    intro l3 n_l3
    have e_l3 : Ext H3 (upd H3 l3 (.lst (iV (ri.take at_ ++ [b])))) := Only'.put0 Only'.refl n_l3
    have h_l3 : (upd H3 l3 (.lst (iV (ri.take at_ ++ [b])))) l3 = some (.lst (iV (ri.take at_ ++ [b]))) := upd_same
    generalize (upd H3 l3 (.lst (iV (ri.take at_ ++ [b])))) = H4 at *
    have hp4 := (((e_l1.trans e_l2).trans e_l3)) p _ hp1 (by simp)
    wtm_at "x"
    rw [cutI_from ri (at_ + 1) (by omega)]
    intro l4 n_l4
    have e_l4 : Ext H4 (upd H4 l4 (.lst (iV (ri.drop (at_ + 1))))) := Only'.put0 Only'.refl n_l4
    have h_l4 : (upd H4 l4 (.lst (iV (ri.drop (at_ + 1))))) l4 = some (.lst (iV (ri.drop (at_ + 1)))) := upd_same
    generalize (upd H4 l4 (.lst (iV (ri.drop (at_ + 1))))) = H5 at *
    have hp5 := e_l4 p _ hp4 (by simp)
    refine x_cat (e_l4 l3 _ h_l3 (by simp)) h_l4 (by rw [iV_length, iV_length, sizeLine_eq, List.length_append, List.length_drop, lA]; simp; omega) ?_
    rw [← iV_append]
    intro A n_A
    have e_A : Ext H5 (upd H5 A (.lst (iV (ri.take at_ ++ [b] ++ ri.drop (at_ + 1))))) := Only'.put0 Only'.refl n_A
    have h_A : (upd H5 A (.lst (iV (ri.take at_ ++ [b] ++ ri.drop (at_ + 1))))) A = some (.lst (iV (ri.take at_ ++ [b] ++ ri.drop (at_ + 1)))) := upd_same
    generalize (upd H5 A (.lst (iV (ri.take at_ ++ [b] ++ ri.drop (at_ + 1))))) = H6 at *
    have hp6 := e_A p _ hp5 (by simp)
    wtm_at "x"
    rw [cutI_to]
    intro l5 n_l5
    have e_l5 : Ext H6 (upd H6 l5 (.lst (iV (ri.take at_)))) := Only'.put0 Only'.refl n_l5
    have h_l5 : (upd H6 l5 (.lst (iV (ri.take at_)))) l5 = some (.lst (iV (ri.take at_))) := upd_same
    generalize (upd H6 l5 (.lst (iV (ri.take at_)))) = H7 at *
    have hp7 := e_l5 p _ hp6 (by simp)
    wtm_at "x"
    rw [cutI_from ri (at_ + 1) (by omega)]
    intro l6 n_l6
    have e_l6 : Ext H7 (upd H7 l6 (.lst (iV (ri.drop (at_ + 1))))) := Only'.put0 Only'.refl n_l6
    have h_l6 : (upd H7 l6 (.lst (iV (ri.drop (at_ + 1))))) l6 = some (.lst (iV (ri.drop (at_ + 1)))) := upd_same
    generalize (upd H7 l6 (.lst (iV (ri.drop (at_ + 1))))) = H8 at *
    have hp8 := e_l6 p _ hp7 (by simp)
    refine x_cat (e_l6 l5 _ h_l5 (by simp)) h_l6 (by rw [iV_length, iV_length, sizeLine_eq, List.length_drop, lA]; omega) ?_
    rw [← iV_append]
    intro B n_B
    have e_B : Ext H8 (upd H8 B (.lst (iV (ri.take at_ ++ ri.drop (at_ + 1))))) := Only'.put0 Only'.refl n_B
    have h_B : (upd H8 B (.lst (iV (ri.take at_ ++ ri.drop (at_ + 1))))) B = some (.lst (iV (ri.take at_ ++ ri.drop (at_ + 1)))) := upd_same
    generalize (upd H8 B (.lst (iV (ri.take at_ ++ ri.drop (at_ + 1))))) = H9 at *
    have hp9 := e_B p _ hp8 (by simp)
    wtm_at "x"
    rw [cutI_to]
    intro l7 n_l7
    have e_l7 : Ext H9 (upd H9 l7 (.lst (iV (ri.take at_)))) := Only'.put0 Only'.refl n_l7
    have h_l7 : (upd H9 l7 (.lst (iV (ri.take at_)))) l7 = some (.lst (iV (ri.take at_))) := upd_same
    generalize (upd H9 l7 (.lst (iV (ri.take at_)))) = H10 at *
    have hp10 := e_l7 p _ hp9 (by simp)
    wtm_at "x"
    intro l8 n_l8
    have e_l8 : Ext H10 (upd H10 l8 (.lst [V.int b])) := Only'.put0 Only'.refl n_l8
    have h_l8 : (upd H10 l8 (.lst [V.int b])) l8 = some (.lst [V.int b]) := upd_same
    generalize (upd H10 l8 (.lst [V.int b])) = H11 at *
    have hp11 := e_l8 p _ hp10 (by simp)
    refine x_cat (ys := iV [b]) (e_l8 l7 _ h_l7 (by simp)) h_l8 (by rw [iV_length, iV_length, sizeLine_eq, lA]; simp; omega) ?_
    rw [← iV_append]
    intro l9 n_l9
    have e_l9 : Ext H11 (upd H11 l9 (.lst (iV (ri.take at_ ++ [b])))) := Only'.put0 Only'.refl n_l9
    have h_l9 : (upd H11 l9 (.lst (iV (ri.take at_ ++ [b])))) l9 = some (.lst (iV (ri.take at_ ++ [b]))) := upd_same
    generalize (upd H11 l9 (.lst (iV (ri.take at_ ++ [b])))) = H12 at *
    have hp12 := e_l9 p _ hp11 (by simp)
    wtm_at "x"
    rw [cutI_from ri at_ rfl]
    intro m1 n_m1
    have e_m1 : Ext H12 (upd H12 m1 (.lst (iV (ri.drop at_)))) := Only'.put0 Only'.refl n_m1
    have h_m1 : (upd H12 m1 (.lst (iV (ri.drop at_)))) m1 = some (.lst (iV (ri.drop at_))) := upd_same
    generalize (upd H12 m1 (.lst (iV (ri.drop at_)))) = H13 at *
    have hp13 := e_m1 p _ hp12 (by simp)
    refine x_cat (e_m1 l9 _ h_l9 (by simp)) h_m1 (by rw [iV_length, iV_length, sizeLine_eq, List.length_append, List.length_drop, lA]; simp; omega) ?_
    rw [← iV_append]
    intro C n_C
    have e_C : Ext H13 (upd H13 C (.lst (iV (ri.take at_ ++ [b] ++ ri.drop at_)))) := Only'.put0 Only'.refl n_C
    have h_C : (upd H13 C (.lst (iV (ri.take at_ ++ [b] ++ ri.drop at_)))) C = some (.lst (iV (ri.take at_ ++ [b] ++ ri.drop at_))) := upd_same
    generalize (upd H13 C (.lst (iV (ri.take at_ ++ [b] ++ ri.drop at_)))) = H14 at *
    have hp14 := e_C p _ hp13 (by simp)
    wtm_at "x"
    intro m2 n_m2
    have e_m2 : Ext H14 (upd H14 m2 (.lst [V.ref A, V.ref B, V.ref C])) := Only'.put0 Only'.refl n_m2
    have h_m2 : (upd H14 m2 (.lst [V.ref A, V.ref B, V.ref C])) m2 = some (.lst [V.ref A, V.ref B, V.ref C]) := upd_same
    generalize (upd H14 m2 (.lst [V.ref A, V.ref B, V.ref C])) = H15 at *
    have hp15 := e_m2 p _ hp14 (by simp)
    wtm_at "x"
    rw [cutI_to]
    intro D n_D
    have e_D : Ext H15 (upd H15 D (.lst (iV (ri.take at_)))) := Only'.put0 Only'.refl n_D
    have h_D : (upd H15 D (.lst (iV (ri.take at_)))) D = some (.lst (iV (ri.take at_))) := upd_same
    generalize (upd H15 D (.lst (iV (ri.take at_)))) = H16 at *
    have hp16 := e_D p _ hp15 (by simp)
    wtm_at "x"
    intro m3 n_m3
    have e_m3 : Ext H16 (upd H16 m3 (.lst [V.ref D, V.ref p, V.ref p])) := Only'.put0 Only'.refl n_m3
    have h_m3 : (upd H16 m3 (.lst [V.ref D, V.ref p, V.ref p])) m3 = some (.lst [V.ref D, V.ref p, V.ref p]) := upd_same
    generalize (upd H16 m3 (.lst [V.ref D, V.ref p, V.ref p])) = H17 at *
    have hp17 := e_m3 p _ hp16 (by simp)
    refine x_cat ((e_D.trans e_m3) m2 _ h_m2 (by simp)) h_m3 (by rw [sizeLine_eq]; simp) ?_
    intro dd n_dd
    have e_dd : Ext H17 (upd H17 dd (.lst ([V.ref A, V.ref B, V.ref C] ++ [V.ref D, V.ref p, V.ref p]))) := Only'.put0 Only'.refl n_dd
    have h_dd : (upd H17 dd (.lst ([V.ref A, V.ref B, V.ref C] ++ [V.ref D, V.ref p, V.ref p]))) dd = some (.lst ([V.ref A, V.ref B, V.ref C] ++ [V.ref D, V.ref p, V.ref p])) := upd_same
    generalize (upd H17 dd (.lst ([V.ref A, V.ref B, V.ref C] ++ [V.ref D, V.ref p, V.ref p]))) = H18 at *
    wtm_at "x"
    have eD := e_m3.trans e_dd
    have eC := (e_m2.trans e_D).trans eD
    have eB := ((((e_l7.trans e_l8).trans e_l9).trans e_m1).trans e_C).trans eC
    have eA := ((e_l5.trans e_l6).trans e_B).trans eB
    have eAll := (((((e_pb.trans e_l1).trans e_l2).trans e_l3).trans e_l4).trans e_A).trans eA
    have hall : ∀ z, z ∈ [V.ref A, V.ref B, V.ref C] ++ [V.ref D, V.ref p, V.ref p] → ∃ (t : Addr) (rt : Row), z = V.ref t ∧ H18 t = some (.lst (iV rt)) ∧ Bys rt ∧ rt.length ≤ ri.length + 1 ∧ bigc rt ≤ bigc ri + 1 := by
      intro z hz
      simp only [List.mem_append, List.mem_cons, List.not_mem_nil, or_false] at hz
      rcases hz with (rfl | rfl | rfl) | rfl | rfl | rfl
      · exact ⟨A, _, rfl, eA A _ h_A (by simp), bys_app (bys_app hA bb) (bys_drop byi _), by rw [List.length_append, List.length_append, List.length_drop, lA]; simp; omega, by rw [bigc_app, bigc_app]; omega⟩
      · exact ⟨B, _, rfl, eB B _ h_B (by simp), bys_app hA (bys_drop byi _), by rw [List.length_append, List.length_drop, lA]; omega, by rw [bigc_app]; omega⟩
      · exact ⟨C, _, rfl, eC C _ h_C (by simp), bys_app (bys_app hA bb) (bys_drop byi _), by rw [List.length_append, List.length_append, List.length_drop, lA]; simp; omega, by rw [bigc_app, bigc_app]; omega⟩
      · exact ⟨D, _, rfl, eD D _ h_D (by simp), hA, by rw [lA]; omega, by have := bigc_take ri at_; omega⟩
      · exact ⟨p, _, rfl, e_dd p _ hp17 (by simp), byi, by omega, by omega⟩
      · exact ⟨p, _, rfl, e_dd p _ hp17 (by simp), byi, by omega, by omega⟩
    refine x_ixV _ h_dd (by omega) (by show _ < (6 : Int); omega) fun z hz => ?_
    obtain ⟨t, rt, rfl, ht, bt, lt, gt⟩ := hall z hz
    wtm_at "x"
    exact q rt H18 t bt lt gt eAll ht
end
end Flow

namespace Flow
open PySem PySem.Spec PyProof.Rows L2
theorem rseq_begin (f : List RSt → Int → Told) (ss : List RSt) (x y : Row) : (rseq f ss x).1.length ≤ (rseq f ss (x ++ y)).1.length := by
  rw [rseq_app]
  generalize rseq f ss x = q
  obtain ⟨o, s', fl⟩ := q
  cases fl with
  | some p => exact Nat.le_refl _
  | none =>
    dsimp only
    rw [List.length_append]
    omega
theorem rseq_none {f : List RSt → Int → Told} {ss : List RSt} {x : Row} (h : (rseq f ss x).2.2 = none) (y : Row) : rseq f ss (x ++ y) = ((rseq f ss x).1 ++ (rseq f (rseq f ss x).2.1 y).1, (rseq f (rseq f ss x).2.1 y).2) := by
  rw [rseq_app]
  generalize rseq f ss x = q at *
  obtain ⟨o, s', fl⟩ := q
  have h' : fl = none := h
  subst h'
  rfl
theorem rseq_some {f : List RSt → Int → Told} {ss : List RSt} {x : Row} {p : Fault} (h : (rseq f ss x).2.2 = some p) (y : Row) : rseq f ss (x ++ y) = rseq f ss x := by
  rw [rseq_app]
  generalize rseq f ss x = q at *
  obtain ⟨o, s', fl⟩ := q
  have h' : fl = some p := h
  subst h'
  rfl
section
variable {P : Program} {w : World} {K : PySem.W.Frag} {mg : Str → Option Value} {base : Heap}
/-- the reader between the pieces: no fault so far, or a fault -/
def Phase (K : PySem.W.Frag) (H8 H : Hp) (y cy dy gg cr : Addr) (cts : List Addr) (fv : V) (R : Told) : Prop :=
  (R.2.2 = none ∧ fv = .non ∧ ∃ qs, ReaderAt K H y cy dy qs R.2.1 ∧ gg ∉ flat qs ∧ cr ∉ flat qs ∧ (∀ t, t ∈ cts → t ∉ flat qs) ∧ (∀ x, x ∈ flat qs → H8 x = none)) ∨
  ∃ (flt : Fault) (t : Addr), R.2.2 = some flt ∧ fv = .ref t ∧ ReaderFl K H y cy dy t flt ∧ ∃ ys : List V, H cy = some (.lst ys) ∧ ys.length ≤ 8
theorem Phase.obs {H8 H : Hp} {y cy dy gg cr : Addr} {cts : List Addr} {fv : V} {R : Told} (h : Phase K H8 H y cy dy gg cr cts fv R) : ∃ o1 o2, H y = some o1 ∧ H cy = some o2 := by
  rcases h with ⟨_, _, qs, hR, _⟩ | ⟨flt, t, _, _, hF, ys, hys, _⟩
  · exact ⟨_, _, hR.ob, hR.cl⟩
  · exact ⟨_, _, hF.ob, hys⟩
theorem Phase.ext {H8 H H' : Hp} {y cy dy gg cr : Addr} {cts : List Addr} {fv : V} {R : Told} (h : Phase K H8 H y cy dy gg cr cts fv R) (e : Ext H H') : Phase K H8 H' y cy dy gg cr cts fv R := by
  rcases h with ⟨a, b, qs, hR, c, d, f, g⟩ | ⟨flt, t, a, b, hF, ys, hys, hy8⟩
  · exact Or.inl ⟨a, b, qs, hR.ext0 e, c, d, f, g⟩
  · exact Or.inr ⟨flt, t, a, b, ⟨e y _ hF.ob (by simp), e t _ hF.fl (by simp)⟩, ys, e cy _ hys (by simp), hy8⟩
theorem FltAt.put {H0 H : Hp} {fv : V} {fo : Option Fault} {r : Addr} {xs : List V} {o : HO} (h : FltAt H0 H fv fo) (hr : H r = some (.lst xs)) : FltAt H0 (upd H r o) fv fo := by
  cases fo with
  | none => exact h
  | some flt =>
    obtain ⟨t, a, b, c⟩ := h
    refine ⟨t, a, b, upd_get (fun z => ?_) c⟩
    rw [z, hr] at c
    cases c
theorem Pieces.lives {H0 H : Hp} {ts : List Addr} {ps : List Row} {t : Addr} (m : Pieces H0 H ts ps) (h : t ∈ ts) : ∃ p, H t = some (.lst (iV p)) := by
  obtain ⟨i, hi, e⟩ := List.mem_iff_getElem.mp h
  have hp : i < ps.length := by rw [← m.len]; exact hi
  exact ⟨ps[i], m.at_ i t _ (by rw [List.getElem?_eq_getElem hi, e]) (List.getElem?_eq_getElem hp)⟩
theorem ok_law {fd : FuncData} (T : Tx K mg) (F : FunD K "law" "law" (defArgs s_law) (defBody s_law) (defScope s_law) [] [] (He.ga K "law") fd) : FnOk P w K mg base (L2.CX P w) 18 (He.ga K "law") fd ["_law_script"] (spLaw K) := by
  have D_law_mix := ok_law_mix (P := P) (w := w) (base := base) T
  have D_law_layers := ok_law_layers (P := P) (w := w) (base := base) T
  have D_law_row := ok_law_row (P := P) (w := w) (base := base) T
  have D_law_cuts := ok_law_cuts (P := P) (w := w) (base := base) T
  have D_law_spoilt := ok_law_spoilt (P := P) (w := w) (base := base) T
  have D_written := ok_written (P := P) (w := w) (base := base) T
  have D_read := ok_read (P := P) (w := w) (base := base) T
  have D_Writer : MakeOk P w K mg base 4 (He.ga K "Writer") _ _ := ⟨_, mk_Writer T, ok_Writer_init T⟩
  have D_Reader : MakeOk P w K mg base 4 (He.ga K "Reader") _ _ := ⟨_, mk_Reader T, ok_Reader_init T⟩
  have M_Writer_take := meth1 (cl_Writer T) (me_Writer_take T) (ok_Writer_take (P := P) (w := w) (base := base) T)
  have M_Writer_end := meth1 (cl_Writer T) (me_Writer_end T) (ok_Writer_end (P := P) (w := w) (base := base) T)
  have M_Reader_take := meth1 (cl_Reader T) (me_Reader_take T) (ok_Reader_take (P := P) (w := w) (base := base) T)
  have M_Reader_end := meth1 (cl_Reader T) (me_Reader_end T) (ok_Reader_end (P := P) (w := w) (base := base) T)
  refine law_ok (N := n_law) F sc_law (fun vs H Q E h => ?_) (fun cdv A outer s H vs Q E hr h => ?_)
  · obtain ⟨a, ns, rfl, _⟩ := h
    rfl
  · obtain ⟨a, s, rfl, hs0, q⟩ := h
    have hs : SqL K H a (iV s) := hs0
    have PRp := RAt_parts K
    have PWp := WAt_parts K
    refine ⟨_, [_, _, _, _, _, _, _, _, _, _, _, _, _, _, _, _], (pss_cons (ps_set (i := 1) sc_law.nd rfl (Or.inl rfl) (pe_fn D_law_layers (g_law_layers T) (hr.mono (by first | decide | omega)) (fun _ => passE) (pa_cons (pv 0) (pa_cons pe_int (pa_cons pe_int pa_nil)))))
      (pss_cons (ps_set (i := 2) sc_law.nd rfl (Or.inl rfl) (pe_fn D_law_row (g_law_row T) (hr.mono (by first | decide | omega)) (fun _ => passE) (pa_cons (pv 0) (pa_cons pe_int (pa_cons (pe_ix ix_list (pe_lst (pa_cons pe_int (pa_cons pe_int (pa_cons pe_int (pa_cons pe_int pa_nil))))) (pe_callB call_lenS rfl (f_len T) (by decide +kernel) (pa_cons (pv 1) pa_nil)) (fun _ _ => rfl)) (pa_cons pe_bl pa_nil))))))
      (pss_cons (ps_set (i := 3) sc_law.nd rfl (Or.inl rfl) (pe_fn D_written (g_written T) (hr.mono (by first | decide | omega)) (fun σ => passAt (takes_of rfl rfl rfl rfl) σ) (pa_cons (pv 1) (pa_cons (pv 2) pa_nil))))
      (pss_cons (ps_for (passes_of rfl) rfl (pi_range1 rfl (f_range T) (pa_cons (pe_op op_add pe_int (pe_op op_mod (pe_fn D_law_mix (g_law_mix T) (hr.mono (by first | decide | omega)) (fun _ => passE) (pa_cons (pv 0) (pa_cons pe_int pa_nil))) pe_int)) pa_nil)) (pg_name (i := 4) sc_law.nd rfl (Or.inl rfl)) (pss_one (ps_set (i := 3) sc_law.nd rfl (Or.inl rfl) (pe_fn D_law_spoilt (g_law_spoilt T) (hr.mono (by first | decide | omega)) (fun _ => passE) (pa_cons (pv 0) (pa_cons (pe_op op_add pe_int (pv 4)) (pa_cons (pv 3) pa_nil)))))))
      (pss_cons (ps_set (i := 5) sc_law.nd rfl (Or.inl rfl) (pe_fn D_read (g_read T) (hr.mono (by first | decide | omega)) (fun σ => passAt (takes_of rfl rfl rfl rfl) σ) (pa_cons (pv 1) (pa_cons (pe_callTy call_listS rfl (f_list T) (by decide +kernel) (pa_cons (pv 3) pa_nil)) pa_nil))))
      (pss_cons (ps_set (i := 6) sc_law.nd rfl (Or.inl rfl) (pe_mk D_Reader (g_Reader T) (hr.mono (by first | decide | omega)) (fun σ => passAt (takes_of rfl rfl rfl rfl) σ) (pa_cons (pv 1) pa_nil)))
      (pss_cons (ps_set (i := 7) sc_law.nd rfl (Or.inl rfl) (pe_lst pa_nil))
      (pss_cons (ps_set (i := 8) sc_law.nd rfl (Or.inl rfl) pe_non)
      (pss_cons (ps_set (i := 9) sc_law.nd rfl (Or.inl rfl) pe_int)
      (pss_cons (ps_for (passes_of rfl) rfl (pi_list (pe_fn D_law_cuts (g_law_cuts T) (hr.mono (by first | decide | omega)) (fun _ => passE) (pa_cons (pv 0) (pa_cons pe_int (pa_cons (pv 3) pa_nil))))) (pg_name (i := 10) sc_law.nd rfl (Or.inl rfl)) (pss_cons (ps_set (i := 9) sc_law.nd rfl (Or.inl rfl) (pe_op op_add (pv 9) (pe_callB call_lenS rfl (f_len T) (by decide +kernel) (pa_cons (pv 10) pa_nil))))
      (pss_cons (ps_set (i := 11) sc_law.nd rfl (Or.inl rfl) (pe_callTy call_listS rfl (f_list T) (by decide +kernel) (pa_cons (pv 10) pa_nil)))
      (pss_cons (ps_set (i := 12) sc_law.nd rfl (Or.inl rfl) (pe_mm M_Reader_take (hr.mono (by first | decide | omega)) (fun _ => passE) (pv 6) (pa_cons (pv 11) pa_nil)))
      (pss_cons (ps_if (PW.pt (pw_or (pt_not (pt_val (pe_callB call_isi rfl (f_isinstance T) (by decide +kernel) (pa_cons (pv 12) (pa_cons (pe_bltn (v := .ty "tuple") rfl (f_tuple T) (by decide +kernel) rfl) pa_nil))))) (pw_or (pt_cmpR op_ne (pe_callB call_lenS rfl (f_len T) (by decide +kernel) (pa_cons (pv 12) pa_nil)) pe_int (nomark _)) (pw_or (pt_not (pt_val (pe_callB call_isi rfl (f_isinstance T) (by decide +kernel) (pa_cons (pe_ix ix_tup (pv 12) pe_int (fun _ _ => rfl)) (pa_cons (pe_bltn (v := .ty "list") rfl (f_list T) (by decide +kernel) rfl) pa_nil))))) (pw_or1 (pt_cmpR (op_neD hr.units) (pv 11) (pv 10) (nomark _))))))) (pss_one (ps_ret pe_bl)) pss_nil)
      (pss_cons (ps_if (PW.pt (pw_and (pt_cmpR op_notNS (pv 8) pe_non (nomark _)) (pw_and1 (pt_cmpR (op_neD hr.units) (pv 12) (pe_tup (pa_cons (pe_lst pa_nil) (pa_cons (pv 8) pa_nil))) (nomark _))))) (pss_one (ps_ret pe_bl)) pss_nil)
      (pss_cons (ps_set (i := 7) sc_law.nd rfl (Or.inl rfl) (pe_op op_cat (pv 7) (pe_ix ix_tup (pv 12) pe_int (fun _ _ => rfl))))
      (pss_cons (ps_set (i := 8) sc_law.nd rfl (Or.inl rfl) (pe_ix ix_tup (pv 12) pe_int (fun _ _ => rfl)))
      (pss_cons (ps_expr (pe_bm PySem.F.plainAttrs_list PySem.F.slot_list_append PySem.F.type_list_append mt_append (pe_ix ix_tup (pv 12) pe_int (fun _ _ => rfl)) (pa_cons pe_int pa_nil)))
      (pss_one (ps_if (pt_cmpR (op_neD hr.units) (pe_tup (pa_cons (pv 7) (pa_cons (pv 8) pa_nil))) (pe_mm M_Reader_take (hr.mono (by first | decide | omega)) (fun _ => passE) (pe_mk D_Reader (g_Reader T) (hr.mono (by first | decide | omega)) (fun σ => passAt (takes_of rfl rfl rfl rfl) σ) (pa_cons (pv 1) pa_nil)) (pa_cons (pe_slice sl_list (pv 3) po_none (po_some (pv 9))) pa_nil)) (nomark _)) (pss_one (ps_ret pe_bl)) pss_nil)))))))))))
      (pss_cons (ps_set (i := 12) sc_law.nd rfl (Or.inl rfl) (pe_mm0 M_Reader_end (hr.mono (by first | decide | omega)) (fun _ => passE) (pv 6)))
      (pss_cons (ps_if (PW.pt (pw_or (PW.pt (pw_and (pt_cmpR op_notNS (pv 8) pe_non (nomark _)) (pw_and1 (pt_cmpR (op_neD hr.units) (pv 12) (pe_tup (pa_cons (pe_lst pa_nil) (pa_cons (pv 8) pa_nil))) (nomark _))))) (pw_or1 (pt_cmpR (op_neD hr.units) (pe_tup (pa_cons (pe_op op_cat (pv 7) (pe_ix ix_tup (pv 12) pe_int (fun _ _ => rfl))) (pa_cons (pe_ix ix_tup (pv 12) pe_int (fun _ _ => rfl)) pa_nil))) (pv 5) (nomark _))))) (pss_one (ps_ret pe_bl)) pss_nil)
      (pss_cons (ps_set (i := 11) sc_law.nd rfl (Or.inl rfl) (pe_callTy call_listS rfl (f_list T) (by decide +kernel) (pa_cons (pv 2) pa_nil)))
      (pss_cons (ps_set (i := 13) sc_law.nd rfl (Or.inl rfl) (pe_mk D_Writer (g_Writer T) (hr.mono (by first | decide | omega)) (fun σ => passAt (takes_of rfl rfl rfl rfl) σ) (pa_cons (pv 1) pa_nil)))
      (pss_cons (ps_set (i := 14) sc_law.nd rfl (Or.inl rfl) (pe_mm M_Writer_take (hr.mono (by first | decide | omega)) (fun _ => passE) (pv 13) (pa_cons (pv 11) pa_nil)))
      (pss_cons (ps_set (i := 15) sc_law.nd rfl (Or.inl rfl) (pe_callTy call_listS rfl (f_list T) (by decide +kernel) (pa_cons (pv 14) pa_nil)))
      (pss_cons (ps_expr (pe_bm PySem.F.plainAttrs_list PySem.F.slot_list_append PySem.F.type_list_append mt_append (pv 14) (pa_cons pe_int pa_nil)))
      (pss_one (ps_ret (pe_and (pe_cmpR (op_eqD hr.units) (pv 11) (pv 2) (nomark _)) (pe_one (pe_cmpR (op_eqD hr.units) (pe_op op_cat (pv 15) (pe_mm0 M_Writer_end (hr.mono (by first | decide | omega)) (fun _ => passE) (pv 13))) (pe_fn D_written (g_written T) (hr.mono (by first | decide | omega)) (fun σ => passAt (takes_of rfl rfl rfl rfl) σ) (pa_cons (pv 1) (pa_cons (pv 2) pa_nil))) (nomark _))))))))))))))))))))))), rfl, ?_⟩
    try dsimp only [cxOf]
    wtm_at "x"
    refine ⟨a, s, 0, 3, rfl, hs, by decide, fun lays ts H1 r few3 e1 hr0 hr1 hmd1 => ?_⟩
    have oks := hmd1.oks
    have few : lays.length ≤ 8 := by omega
    have lts : (ts.map V.ref).length = lays.length := by rw [List.length_map, hmd1.len]
    have hs1 := SqL.ext e1 hs
    wtm_at "x"
    intro p1 n_p1
    have e_p1 : Ext H1 (upd H1 p1 (.lst [V.int 12, V.int 8, V.int 5, V.int 4])) := Only'.put0 Only'.refl n_p1
    have h_p1 : (upd H1 p1 (.lst [V.int 12, V.int 8, V.int 5, V.int 4])) p1 = some (.lst [V.int 12, V.int 8, V.int 5, V.int 4]) := upd_same
    generalize (upd H1 p1 (.lst [V.int 12, V.int 8, V.int 5, V.int 4])) = H2 at *
    have hr2 := e_p1 r _ hr1 (by simp)
    wtm_at "x"
    rw [lts]
    refine x_ixL (SqL.of h_p1) (gI_at (xs := [12, 8, 5, 4]) (by omega) (by show _ < (4 : Int); omega)) ?_
    obtain ⟨most, hmost, m12, m5, m4⟩ : ∃ most : Nat, gI [12, 8, 5, 4] (lays.length : Int) = (most : Int) ∧ most ≤ 12 ∧ (2 ≤ lays.length → most ≤ 5) ∧ (3 ≤ lays.length → most ≤ 4) := by
      have h : lays.length = 0 ∨ lays.length = 1 ∨ lays.length = 2 ∨ lays.length = 3 := by omega
      rcases h with h | h | h | h <;> rw [h]
      · exact ⟨12, rfl, by omega, by omega, by omega⟩
      · exact ⟨8, rfl, by omega, by omega, by omega⟩
      · exact ⟨5, rfl, by omega, by omega, by omega⟩
      · exact ⟨4, rfl, by omega, by omega, by omega⟩
    rw [hmost]
    have hs2 := SqL.ext e_p1 hs1
    wtm_at "x"
    refine ⟨a, s, 30, most, false, rfl, hs2, by omega, fun row H4 rr hby ⟨_, hsmall⟩ e4 hrr0 hrr4 => ?_⟩
    obtain ⟨hrow4, pcs0, hpcs0, hflatR⟩ := hsmall rfl
    have hlen4 : row.length ≤ 400 := by omega
    wtm_at "x"
    refine x_written (((hmd1.ext e_p1).ext e4).handed (e4 r _ hr2 (by simp))) oks few (SqL.of hrr4) hby hlen4 fun H5 st0 e5 hst00 hst05 => ?_
    have bst0 := written_by (lays := lays) oks hby
    have lst0 := stream_small48 oks few3 hby (by omega)
    have e25 := e4.trans e5
    have hs5 := SqL.ext e25 hs2
    have b5 : LB K H H5 a r rr st0 s ts lays row (written lays row) := ⟨hs5, e25 r _ hr2 (by simp), (hmd1.ext e_p1).ext e25, e5 rr _ hrr4 (by simp), hst05⟩
    wtm_at "x"
    refine ⟨a, s, 46, rfl, hs5, ?_⟩
    have m46 := lmix_in s 46
    wtm_at "x"
    refine x_rForR1 (k := (1 + lmix s 46 % 2).toNat) (by omega) (by omega) (fun i σ H' => ∃ (ri : Row) (p : Addr) (v4 : Option V), σ = [some (.ref a), some (.ref r), some (.ref rr), some (.ref p), v4, none, none, none, none, none, none, none, none, none, none, none] ∧ H' p = some (.lst (iV ri)) ∧ Ext H5 H' ∧ Bys ri ∧
        ri.length ≤ (written lays row).length + i ∧ bigc ri ≤ bigc (written lays row) + i)
      ⟨_, st0, none, rfl, hst05, Only'.refl, bst0, Nat.le_refl _, Nat.le_refl _⟩ ?_ ?_
    · rintro i σ H' hi ⟨ri, p, v4, rfl, hp, e, byi, hli, hgi⟩
      wtm_at "x"
      refine ⟨a, s, _, p, ri, rfl, SqL.ext e hs5, hp, byi, by omega, fun row' H'' p' by' l' g' e' hp' => ?_⟩
      wtm_at "x"
      exact ⟨row', p', _, rfl, hp', e.trans e', by', by omega, by omega⟩
    rintro σ H6 ⟨str, st, v4, rfl, hst6, e56, bst, hli, hgi⟩
    have b6 : LB K H H6 a r rr st s ts lays row str := by
      have b := b5.ext e56
      exact ⟨b.hs, b.hr, b.md, b.hrr, hst6⟩
    have k2 : (1 + lmix s 46 % 2).toNat ≤ 2 := by omega
    obtain ⟨fit1, fit2⟩ := told_fits oks few3 hby m12 m5 m4 hrow4 hpcs0 hflatR bst (by omega) (by omega)
    have lst : str.length ≤ 8000000 := by omega
    clear hli hgi
    wtm_at "x"
    intro pl n_pl
    have e_pl : Ext H6 (upd H6 pl (.lst (iV str))) := Only'.put0 Only'.refl n_pl
    have h_pl : (upd H6 pl (.lst (iV str))) pl = some (.lst (iV str)) := upd_same
    generalize (upd H6 pl (.lst (iV str))) = H7 at *
    wtm_at "x"
    refine x_read (row := str) ((b6.ext e_pl).md.handed (b6.ext e_pl).hr) oks few h_pl bst (by omega) fun H8 wh wr wv e8 hwh0 hwr0 hwh8 hwr8 hwv8 => ?_
    have b8 := b6.ext (e_pl.trans e8)
    have hwv8' : FltAt H6 H8 wv (readAll lays str).2 := hwv8.pre fun x hx => e_pl.free hx
    wtm_at "x"
    refine x_mkReader (b8.md.handed b8.hr) oks few fun H9 y dy cy qs hR9 ny ncy hnqs e9 => ?_
    wtm_at "x"
    intro g0 n_g0
    have e_g0 : Ext H9 (upd H9 g0 (.lst [])) := Only'.put0 Only'.refl n_g0
    have h_g0 : (upd H9 g0 (.lst [])) g0 = some (.lst []) := upd_same
    generalize (upd H9 g0 (.lst [])) = H10 at *
    have hR10 := hR9.ext0 e_g0
    have ng0 := hR9.out n_g0
    have e810 := e9.trans e_g0
    have b10 := b8.ext e810
    wtm_at "x"
    refine ⟨a, s, 50, st, str, rfl, b10.hs, b10.hst, lst, fun pcs cts H11 cr hflat e11 hcr0 hcr11 hpcs11 => ?_⟩
    have hR11 := hR10.ext0 e11
    have e811 := e810.trans e11
    have lcts : (cts.map V.ref).length = pcs.length := by rw [List.length_map, hpcs11.len]
    have lrs : (lays.reverse.map newR).length = lays.length := by rw [List.length_map, List.length_reverse]
    have erow : ∀ x : Row, rrow (lays.reverse.map newR) x = rseq (rone lays.length) (lays.reverse.map newR) x := fun x => by unfold rrow; rw [lrs]
    have hpre : ∀ i, (pcs.take i).flatten ++ (pcs.drop i).flatten = str := fun i => by rw [← List.flatten_append, List.take_append_drop, hflat]
    have hsz : ∀ i, (rseq (rone lays.length) (lays.reverse.map newR) (pcs.take i).flatten).1.length ≤ 16000000 := fun i => by
      have := rseq_begin (rone lays.length) (lays.reverse.map newR) (pcs.take i).flatten (pcs.drop i).flatten
      rw [hpre] at this
      omega
    have hg011 := e11 g0 _ h_g0 (by simp)
    have Hcy : H8 cy = none := ncy
    have hstep : ∀ {i : Nat} {pc : Row}, pcs[i]? = some pc → (pcs.take (i + 1)).flatten = (pcs.take i).flatten ++ pc := fun h => by rw [take_more h, List.flatten_append, List.flatten_singleton]
    refine x_rForL (SqL.of hcr11) (fun i σ Hi => ∃ (gg : Addr) (fv : V) (v10 v11 v12 : Option V), σ = [some (.ref a), some (.ref r), some (.ref rr), some (.ref st), v4, some (.ref wh), some (.ref y), some (.ref gg), some fv, some (.int ((pcs.take i).flatten.length : Int)), v10, v11, v12, none, none, none] ∧
        Ext H8 Hi ∧ Hi gg = some (.lst (iV (rseq (rone lays.length) (lays.reverse.map newR) (pcs.take i).flatten).1)) ∧ FltAt H8 Hi fv (rseq (rone lays.length) (lays.reverse.map newR) (pcs.take i).flatten).2.2 ∧
        Hi cr = some (.lst (cts.map V.ref)) ∧ Pieces H8 Hi cts pcs ∧ H8 gg = none ∧ Phase K H8 Hi y cy dy gg cr cts fv (rseq (rone lays.length) (lays.reverse.map newR) (pcs.take i).flatten))
      ⟨g0, .non, none, none, none, rfl, e811, hg011, rfl, hcr11, ⟨hpcs11.len, hpcs11.at_, fun t ht => e810.free (hpcs11.new t ht)⟩, e9.free n_g0, Or.inl ⟨rfl, rfl, qs, hR11, ng0, hR10.out hcr0, fun t ht => hR10.out (hpcs11.new t ht), hnqs⟩⟩
      (fun i σ Hi _ ⟨gg, fv, v10, v11, v12, _, _, _, _, h, _⟩ => SqL.of h) ?_ ?_
    · rintro i xv σ Hi hi ⟨gg, fv, v10, v11, v12, rfl, e8i, hgg, hfv, hcr, hpcs, hgg8, hph⟩
      obtain ⟨t, pc, rfl, htm, hpi, hti⟩ := pieces_get hpcs hi
      have bp : Bys pc := bys_piece (by rw [hflat]; exact bst) hpi
      have bi := b8.ext e8i
      have hst' := hstep hpi
      have hszi := hsz (i + 1)
      generalize hRn : rseq (rone lays.length) (lays.reverse.map newR) (pcs.take (i + 1)).flatten = Rn at hszi ⊢
      refine x_gName ?_
      dsimp only [List.set]
      refine seq_cut5 (J := fun σ' H' => ∃ (tp r2 hd : Addr) (fv' : V) (o1 : Row), σ' = [some (.ref a), some (.ref r), some (.ref rr), some (.ref st), v4, some (.ref wh), some (.ref y), some (.ref gg), some fv, some (.int ((pcs.take (i + 1)).flatten.length : Int)), some (.ref t), some (.ref hd), some (.ref tp), none, none, none] ∧
          Ext H8 H' ∧ H' gg = some (.lst (iV (rseq (rone lays.length) (lays.reverse.map newR) (pcs.take i).flatten).1)) ∧ H' tp = some (.tup [.ref r2, fv']) ∧ H' r2 = some (.lst (iV o1)) ∧
          (rseq (rone lays.length) (lays.reverse.map newR) (pcs.take i).flatten).1 ++ o1 = Rn.1 ∧ FltAt H8 H' fv' Rn.2.2 ∧
          H' cr = some (.lst (cts.map V.ref)) ∧ Pieces H8 H' cts pcs ∧ Hi r2 = none ∧ Phase K H8 H' y cy dy r2 cr cts fv' Rn) (fun σ' H' h => ?_) (fun R hR => ?_)
      · -- the tail of a turn
        obtain ⟨tp, r2, hd, fv', o1, rfl, e8', hgg', htp', hr2', eo, hfv', hcr', hpcs', hr20, hph'⟩ := h
        have len1 : (rseq (rone lays.length) (lays.reverse.map newR) (pcs.take i).flatten).1.length + o1.length ≤ 16000000 := by
          rw [← List.length_append, eo]
          exact hszi
        have ne_r2 : ∀ {b : Addr} {o : HO}, Hi b = some o → b ≠ r2 := fun h => ne_of_none h hr20
        have hr28 : H8 r2 = none := e8i.free hr20
        wtm_at "x"
        refine x_ixT (SqT.of htp') (at_of (j := 0) rfl rfl) ?_
        refine x_cat hgg' hr2' (by rw [iV_length, iV_length, sizeLine_eq]; omega) fun g2 hg2 => ?_
        rw [← iV_append, eo]
        have e1 : Ext H' (upd H' g2 (.lst (iV Rn.1))) := Only'.put0 Only'.refl hg2
        have hg2v : (upd H' g2 (.lst (iV Rn.1))) g2 = some (.lst (iV Rn.1)) := upd_same
        generalize (upd H' g2 (.lst (iV Rn.1))) = Ha at *
        have htpa := e1 tp _ htp' (by simp)
        have hr2a := e1 r2 _ hr2' (by simp)
        wtm_at "x"
        refine x_ixT (SqT.of htpa) (at_of (j := 1) rfl rfl) ?_
        wtm_at "x"
        refine x_ixT (SqT.of htpa) (at_of (j := 0) rfl rfl) ?_
        wtm_at "x"
        refine x_append hr2a (by rw [iV_length, sizeLine_eq]; omega) ?_
        obtain ⟨oy, ocy, hyi, hcyi⟩ := hph.obs
        have nyr := ne_r2 hyi
        have ncyr := ne_r2 hcyi
        have e8b : Ext H8 (upd Ha r2 (.lst (iV o1 ++ [V.int 7]))) := (e8'.trans e1).put0 hr28
        have hg2b : (upd Ha r2 (.lst (iV o1 ++ [V.int 7]))) g2 = _ := upd_get (ne_of_none hr2' hg2).symm hg2v
        have hcrb : (upd Ha r2 (.lst (iV o1 ++ [V.int 7]))) cr = some (.lst (cts.map V.ref)) := upd_get (ne_r2 hcr) (e1 cr _ hcr' (by simp))
        have hpcsb : Pieces H8 (upd Ha r2 (.lst (iV o1 ++ [V.int 7]))) cts pcs := hpcs'.ext fun u o hu h => by
          obtain ⟨pu, hpu⟩ := hpcs.lives hu
          exact upd_get (ne_r2 hpu) (e1 u _ h (by simp))
        have hfvb : FltAt H8 (upd Ha r2 (.lst (iV o1 ++ [V.int 7]))) fv' Rn.2.2 := (hfv'.ext e1).put hr2a
        have hphb : Phase K H8 (upd Ha r2 (.lst (iV o1 ++ [V.int 7]))) y cy dy g2 cr cts fv' (Rn) := by
          rcases hph' with ⟨hn, hf, qs2, hR2, nr2, ncr2, nts2, hq2⟩ | ⟨flt, tf, hsm, hf, hFl, ys, hys, hy8⟩
          · exact Or.inl ⟨hn, hf, qs2, (hR2.ext0 e1).ext (Z := [r2]) (Only'.refl.put (by simp)) (by simp [nyr]) (by simp [ncyr]) (fun x hx z => nr2 (by rw [← List.mem_singleton.mp z]; exact hx)), hR2.out hg2, ncr2, nts2, hq2⟩
          · have htf : tf ≠ r2 := fun z => by
              have h1 := hFl.fl
              rw [z, hr2'] at h1
              cases h1
            exact Or.inr ⟨flt, tf, hsm, hf, ⟨upd_get nyr (e1 y _ hFl.ob (by simp)), upd_get htf (e1 tf _ hFl.fl (by simp))⟩, ys, upd_get ncyr (e1 cy _ hys (by simp)), hy8⟩
        generalize (upd Ha r2 (.lst (iV o1 ++ [V.int 7]))) = Hb at *
        have bb := b8.ext e8b
        wtm_at "x"
        intro tq n_tq
        have e_tq : Ext Hb (upd Hb tq (.tup [V.ref g2, fv'])) := Only'.put0 Only'.refl n_tq
        have h_tq : (upd Hb tq (.tup [V.ref g2, fv'])) tq = some (.tup [V.ref g2, fv']) := upd_same
        generalize (upd Hb tq (.tup [V.ref g2, fv'])) = Hc at *
        have bc := bb.ext e_tq
        wtm_at "x"
        refine x_mkReader (bc.md.handed bc.hr) oks few fun Hd z dz cz zs hRz nz ncz hnzs e_d => ?_
        have bd := bc.ext e_d
        have hzd := hRz.ob
        have hstd := bd.hst
        have ecut : cutV (iV str) none (some ((pcs.take (i + 1)).flatten.length : Int)) = iV (pcs.take (i + 1)).flatten := by
          rw [cutI_to]
          have h := hpre (i + 1)
          conv => lhs; rw [← h]
          rw [List.take_left]
        wtm_at "x"
        rw [ecut]
        intro ls n_ls
        have e_ls : Ext Hd (upd Hd ls (.lst (iV (pcs.take (i + 1)).flatten))) := Only'.put0 Only'.refl n_ls
        have h_ls : (upd Hd ls (.lst (iV (pcs.take (i + 1)).flatten))) ls = some (.lst (iV (pcs.take (i + 1)).flatten)) := upd_same
        generalize (upd Hd ls (.lst (iV (pcs.take (i + 1)).flatten))) = He at *
        refine x_nil ?_
        have bdn : Bys (pcs.take (i + 1)).flatten := fun x hx => bst x (by rw [← hpre (i + 1)]; exact List.mem_append_left _ hx)
        refine x_take0 (hRz.ext0 e_ls) h_ls (hRz.out n_ls) bdn (by rw [erow, hRn]; omega) fun Hf tp3 r3 fv3 o3 htp30 hr30 htp3 hr3 hfv3 => ?_
        rw [erow, hRn] at hr3 hfv3
        have ecf : Ext Hc Hf := ext_of (((e_d.trans e_ls).mono (S' := z :: flat zs) fun _ h => nomatch h).trans o3) fun x hx => by
          rcases List.mem_cons.mp hx with h | h
          · rw [h]; exact nz
          · exact hnzs x h
        have ebf := e_tq.trans ecf
        refine x_neD (dp_told (H0 := H8) (ecf tq _ h_tq (by simp)) (ebf g2 _ hg2b (by simp)) (hfvb.ext ebf)) (dp_told htp3 hr3 hfv3) (told_shaped _ _) (told_shaped _ _) ?_
        rw [told_eqv, decide_eq_true rfl, decide_eq_true rfl]
        wtm_at "x"
        try refine iteF ?_
        try wtm_at "x"
        exact ⟨g2, fv', _, _, _, rfl, e8b.trans ebf, ebf g2 _ hg2b (by simp), hfvb.ext ebf, ebf cr _ hcrb (by simp), hpcsb.ext fun u o _ h => ebf u _ h (by simp), (e8'.free hg2), hphb.ext ebf⟩
      · wtm_at "x"
        have eat : ((pcs.take i).flatten.length : Int) + ((iV pc).length : Int) = ((pcs.take (i + 1)).flatten.length : Int) := by
          rw [iV_length, hst', List.length_append]
          omega
        rw [eat]
        intro hd n_hd
        have e_hd : Ext Hi (upd Hi hd (.lst (iV pc))) := Only'.put0 Only'.refl n_hd
        have h_hd : (upd Hi hd (.lst (iV pc))) hd = some (.lst (iV pc)) := upd_same
        generalize (upd Hi hd (.lst (iV pc))) = Hb at *
        have htb := e_hd t _ hti (by simp)
        have hsz2 := hszi
        rw [hst'] at hRn
        rcases hph with ⟨hnone, rfl, qs1, hRi, ngg, ncr, nts, hq8⟩ | ⟨flt, tf, hsome, rfl, hFl, ys, hys, hy8⟩
        · have hRb := hRi.ext0 e_hd
          have hyb := hRb.ob
          have enext := rseq_none hnone pc
          rw [enext] at hRn
          subst hRn
          dsimp only at hszi
          have lst1 : (rseq (rone lays.length) (lays.reverse.map newR) (pcs.take i).flatten).2.1.length = lays.length := (rseq_len _ _ _).trans lrs
          have er2 : rrow (rseq (rone lays.length) (lays.reverse.map newR) (pcs.take i).flatten).2.1 pc = rseq (rone lays.length) (rseq (rone lays.length) (lays.reverse.map newR) (pcs.take i).flatten).2.1 pc := by
            unfold rrow
            rw [lst1]
          rw [List.length_append] at hszi
          wtm_at "x"
          refine Or.inr ⟨y, cy, dy, hd, qs1, _, pc, rfl, hRb, SqL.of h_hd, hRi.out n_hd, bp, by rw [er2]; omega, fun hno H3 tp r2 qs2 st2 hR2 htp hr2 htp0 hr20 nr2 ntp2 => ?_, fun flt hflt H3 tp r2 tf hF htp hr2 htp0 hr20 htf0 o3 => ?_⟩
          · rw [er2] at hno st2 hR2 hr2
            have o3 : Only' (flat qs1) Hb H3 := st2.only.mono fun x hx => by simpa using hx
            have hd3 := o3 hd _ h_hd (hRi.out n_hd)
            have ht3 := o3 t _ htb (nts t htm)
            have e83 : Ext H8 H3 := track (Z := []) (e8i.trans e_hd) (fun x hx => Or.inr (hq8 x hx)) o3
            wtm_at "x"
            refine x_or ?_
            wtm_at "x"
            refine x_isiT (b := true) htp (by decide +kernel) ?_
            wtm_at "x"
            refine iteF ?_
            refine x_or ?_
            wtm_at "x"
            refine ite_nd (fun z => absurd rfl z) fun _ => ?_
            refine x_or ?_
            wtm_at "x"
            refine x_ixT (SqT.of htp) (at_of (j := 0) rfl rfl) ?_
            wtm_at "x"
            refine x_isiL (b := true) hr2 (by decide +kernel) ?_
            wtm_at "x"
            refine iteF ?_
            wtm_at "x"
            refine x_neD (dp_row (SqL.of hd3)) (dp_row (SqL.of ht3)) (row_shaped _) (row_shaped _) ?_
            rw [row_eqv, decide_eq_true rfl]
            wtm_at "x"
            try refine iteF ?_
            wtm_at "x"
            refine x_and ?_
            wtm_at "x"
            refine ite_nd (fun z => absurd rfl z) fun _ => ?_
            try refine iteF ?_
            wtm_at "x"
            refine hR _ _ ⟨tp, r2, hd, .non, _, rfl, e83, o3 gg _ (e_hd gg _ hgg (by simp)) ngg, htp, hr2, rfl, ?_, o3 cr _ (e_hd cr _ hcr (by simp)) ncr, hpcs.ext (fun u o hu h => o3 u _ (e_hd u _ h (by simp)) (nts u hu)), e_hd.free hr20, Or.inl ⟨hno, rfl, qs2, hR2, nr2, st2.out (e_hd cr _ hcr (by simp)) ncr, fun u hu => ?_, fun x hx => ?_⟩⟩
            · show FltAt H8 H3 .non (rseq (rone lays.length) (rseq (rone lays.length) (lays.reverse.map newR) (pcs.take i).flatten).2.1 pc).2.2
              rw [hno]
              rfl
            · obtain ⟨pu, hpu⟩ := hpcs.lives hu
              exact st2.out (e_hd u _ hpu (by simp)) (nts u hu)
            · rcases st2.old x hx with h | h
              · exact hq8 x h
              · exact (e8i.trans e_hd).free h
          · rw [er2] at hflt hr2
            have hd3 := o3 hd _ h_hd (by
              have h1 : hd ≠ y := fun z => by
                rw [z, hyb] at h_hd
                cases h_hd
              simp [h1, hRi.out n_hd])
            have nin : ∀ {b : Addr} {xs : List V}, Hb b = some (.lst xs) → b ∉ flat qs1 → b ∉ y :: flat qs1 := fun {b xs} h n z => by
              rcases List.mem_cons.mp z with z | z
              · rw [z, hyb] at h
                cases h
              · exact n z
            have ht3 := o3 t _ htb (nin htb (nts t htm))
            have e83 : Ext H8 H3 := track (Z := []) (e8i.trans e_hd) (fun x hx => Or.inr (by
              rcases List.mem_cons.mp hx with z | z
              · rw [z]; exact ny
              · exact hq8 x z)) o3
            wtm_at "x"
            refine x_or ?_
            wtm_at "x"
            refine x_isiT (b := true) htp (by decide +kernel) ?_
            wtm_at "x"
            refine iteF ?_
            refine x_or ?_
            wtm_at "x"
            refine ite_nd (fun z => absurd rfl z) fun _ => ?_
            refine x_or ?_
            wtm_at "x"
            refine x_ixT (SqT.of htp) (at_of (j := 0) rfl rfl) ?_
            wtm_at "x"
            refine x_isiL (b := true) hr2 (by decide +kernel) ?_
            wtm_at "x"
            refine iteF ?_
            wtm_at "x"
            refine x_neD (dp_row (SqL.of hd3)) (dp_row (SqL.of ht3)) (row_shaped _) (row_shaped _) ?_
            rw [row_eqv, decide_eq_true rfl]
            wtm_at "x"
            try refine iteF ?_
            wtm_at "x"
            refine x_and ?_
            wtm_at "x"
            refine ite_nd (fun z => absurd rfl z) fun _ => ?_
            try refine iteF ?_
            wtm_at "x"
            have hggb := e_hd gg _ hgg (by simp)
            have hcrb := e_hd cr _ hcr (by simp)
            refine hR _ _ ⟨tp, r2, hd, .ref tf, _, rfl, e83, o3 gg _ hggb (nin hggb ngg), htp, hr2, rfl, ?_, o3 cr _ hcrb (nin hcrb ncr), hpcs.ext (fun u o hu h => ?_), e_hd.free hr20, Or.inr ⟨flt, tf, hflt, rfl, hF, _, o3 cy _ hRb.cl (nin hRb.cl hRb.nc), by rw [pV_len, List.length_reverse]; exact hRb.few⟩⟩
            · show FltAt H8 H3 (.ref tf) (rseq (rone lays.length) (rseq (rone lays.length) (lays.reverse.map newR) (pcs.take i).flatten).2.1 pc).2.2
              rw [hflt]
              exact ⟨tf, rfl, (e8i.trans e_hd).free htf0, hF.fl⟩
            · obtain ⟨pu, hpu⟩ := hpcs.lives hu
              exact o3 u _ (e_hd u _ h (by simp)) (nin (e_hd u _ hpu (by simp)) (nts u hu))
        · have enext := rseq_some hsome pc
          rw [enext] at hRn
          subst hRn
          have hFb : ReaderFl K Hb y cy dy tf flt := ⟨e_hd y _ hFl.ob (by simp), e_hd tf _ hFl.fl (by simp)⟩
          have hyb := hFb.ob
          wtm_at "x"
          refine Or.inl ⟨y, cy, dy, hd, tf, flt, pc, rfl, hFb, SqL.of h_hd, fun H3 tp r2 e3 htp hr2 htp0 hr20 => ?_⟩
          have hd3 := e3 hd _ h_hd (by simp)
          have ht3 := e3 t _ htb (by simp)
          have e83 := (e8i.trans e_hd).trans e3
          wtm_at "x"
          refine x_or ?_
          wtm_at "x"
          refine x_isiT (b := true) htp (by decide +kernel) ?_
          wtm_at "x"
          refine iteF ?_
          refine x_or ?_
          wtm_at "x"
          refine ite_nd (fun z => absurd rfl z) fun _ => ?_
          refine x_or ?_
          wtm_at "x"
          refine x_ixT (SqT.of htp) (at_of (j := 0) rfl rfl) ?_
          wtm_at "x"
          refine x_isiL (b := true) hr2 (by decide +kernel) ?_
          wtm_at "x"
          refine iteF ?_
          wtm_at "x"
          refine x_neD (dp_row (SqL.of hd3)) (dp_row (SqL.of ht3)) (row_shaped _) (row_shaped _) ?_
          rw [row_eqv, decide_eq_true rfl]
          wtm_at "x"
          try refine iteF ?_
          wtm_at "x"
          refine x_and ?_
          wtm_at "x"
          refine ite_nd (fun _ => ?_) fun z => nomatch z
          wtm_at "x"
          intro le n_le
          have e_le : Ext H3 (upd H3 le (.lst [])) := Only'.put0 Only'.refl n_le
          have h_le : (upd H3 le (.lst [])) le = some (.lst []) := upd_same
          generalize (upd H3 le (.lst [])) = H4 at *
          wtm_at "x"
          intro te n_te
          have e_te : Ext H4 (upd H4 te (.tup [V.ref le, V.ref tf])) := Only'.put0 Only'.refl n_te
          have h_te : (upd H4 te (.tup [V.ref le, V.ref tf])) te = some (.tup [V.ref le, V.ref tf]) := upd_same
          generalize (upd H4 te (.tup [V.ref le, V.ref tf])) = H5b at *
          have e35 := e_le.trans e_te
          have hflt5 : FltAt H8 H5b (.ref tf) (some flt) := ⟨tf, rfl, by
            rw [hsome] at hfv
            obtain ⟨t', e, h8, _⟩ := hfv
            cases e
            exact h8, (e3.trans e35) tf _ hFb.fl (by simp)⟩
          refine x_neD (dp_told (row := []) (e35 tp _ htp (by simp)) (e35 r2 _ hr2 (by simp)) hflt5) (dp_told (row := []) h_te (e_te le _ h_le (by simp)) hflt5) (told_shaped _ _) (told_shaped _ _) ?_
          rw [told_eqv, decide_eq_true rfl, decide_eq_true rfl]
          wtm_at "x"
          try refine iteF ?_
          wtm_at "x"
          have e5 := (e_hd.trans e3).trans e35
          refine hR _ _ ⟨tp, r2, hd, .ref tf, [], rfl, e8i.trans e5, e5 gg _ hgg (by simp), e35 tp _ htp (by simp), e35 r2 _ hr2 (by simp), List.append_nil _, ?_, e5 cr _ hcr (by simp), hpcs.ext (fun u o hu h => e5 u _ h (by simp)), e_hd.free hr20, Or.inr ⟨flt, tf, hsome, rfl, ⟨e5 y _ hFl.ob (by simp), e5 tf _ hFl.fl (by simp)⟩, ys, e5 cy _ hys (by simp), hy8⟩⟩
          rw [hsome]
          exact hflt5
    · rintro σ Hi ⟨gg, fv, v10, v11, v12, rfl, e8i, hgg, hfv, hcr, hpcs, hgg8, hph⟩
      have efull : (pcs.take (cts.map V.ref).length).flatten = str := by rw [lcts, List.take_length, hflat]
      rw [efull] at hgg hfv hph ⊢
      have hra : readAll lays str = (match rseq (rone lays.length) (lays.reverse.map newR) str with
          | (o, _, some x) => (o, some x)
          | (o, ss, none) => (o ++ (rendAll ss.length ss).1, (rendAll ss.length ss).2)) := by
        rw [readAll_of, erow]
        try rfl
      dsimp only
      refine seq_cut2 (J := fun σ' H' => (∃ v12', σ' = [some (.ref a), some (.ref r), some (.ref rr), some (.ref st), v4, some (.ref wh), some (.ref y), some (.ref gg), some fv, some (.int (str.length : Int)), v10, v11, v12', none, none, none]) ∧ Ext H8 H') (fun σ' H' h => ?_) (fun R hR => ?_)
      · obtain ⟨⟨v12', rfl⟩, e⟩ := h
        have bw := b8.ext e
        have hrrw := bw.hrr
        wtm_at "x"
        intro hd n_hd
        have e_hd : Ext H' (upd H' hd (.lst (iV row))) := Only'.put0 Only'.refl n_hd
        have h_hd : (upd H' hd (.lst (iV row))) hd = some (.lst (iV row)) := upd_same
        generalize (upd H' hd (.lst (iV row))) = Ha at *
        have ba := bw.ext e_hd
        wtm_at "x"
        refine x_mkWriter (ba.md.handed ba.hr) oks few fun Hb x c ps hW nx ncx hnps e_b => ?_
        have bb := ba.ext e_b
        obtain ⟨fw1, fw2, fw3⟩ := written_fits oks few hby hlen4
        have hsp := written_split lays row
        have hspl := congrArg List.length hsp
        rw [List.length_append] at hspl
        obtain ⟨dx1, hx1⟩ := hW.ob
        have hdb := e_b hd _ h_hd (by simp)
        wtm_at "x"
        refine ⟨x, c, hd, ps, _, row, rfl, hW, SqL.of hdb, hby, fw1, fun Hc r2 ps2 st2 hW2 hr2 hr20 nr2 => ?_⟩
        have e_c : Ext Ha Hc := ext_of ((e_b.mono fun _ z => nomatch z).trans st2.only) (by simpa using hnps)
        wtm_at "x"
        generalize hw0 : (wthru (lays.map newW) row).1 = o1 at *
        generalize hw1 : (wthru (lays.map newW) row).2 = ssE at *
        have lssE : ssE.length = lays.length := by rw [← hw1, wthru_len, List.length_map]
        intro kp n_kp
        have e_kp : Ext Hc (upd Hc kp (.lst (iV o1))) := Only'.put0 Only'.refl n_kp
        have h_kp : (upd Hc kp (.lst (iV o1))) kp = some (.lst (iV o1)) := upd_same
        generalize (upd Hc kp (.lst (iV o1))) = Hd at *
        have hr2d := e_kp r2 _ hr2 (by simp)
        have hr2a : Ha r2 = none := e_b.free hr20
        wtm_at "x"
        refine x_append hr2d (by rw [iV_length, sizeLine_eq]; have := stream_short oks few hby hlen4; omega) ?_
        have e_e : Ext Ha (upd Hd r2 (.lst (iV o1 ++ [V.int 7]))) := (e_c.trans e_kp).put0 hr2a
        have hWe : WriterAt K (upd Hd r2 (.lst (iV o1 ++ [V.int 7]))) x c ps2 ssE := (hW2.ext0 e_kp).ext (Z := [r2]) (Only'.refl.put (by simp)) (by simp [ne_of_none hx1 hr20]) (by simp [ne_of_none hW.cl hr20]) (fun u hu z => nr2 (by rw [← List.mem_singleton.mp z]; exact hu))
        have hkpe : (upd Hd r2 (.lst (iV o1 ++ [V.int 7]))) kp = some (.lst (iV o1)) := upd_get (ne_of_none hr2 n_kp).symm h_kp
        have nkp : kp ∉ flat ps2 := hW2.out n_kp
        generalize (upd Hd r2 (.lst (iV o1 ++ [V.int 7]))) = He at *
        have be := ba.ext e_e
        have hde := e_e hd _ h_hd (by simp)
        obtain ⟨dx2, hx2⟩ := hWe.ob
        wtm_at "x"
        refine x_eqD (dp_row (SqL.of hde)) (dp_row (SqL.of be.hrr)) (row_shaped _) (row_shaped _) ?_
        rw [row_eqv, decide_eq_true rfl]
        wtm_at "x"
        try refine iteT ?_
        wtm_at "x"
        refine ⟨x, c, ps2, ssE, rfl, hWe, by rw [lssE]; exact fw2, by rw [lssE]; omega, fun Hf r3 ps3 ss3 st3 hr3 hr30 nr3 => ?_⟩
        rw [lssE] at hr3
        have hkpf := st3.only kp _ hkpe (by simpa using nkp)
        refine x_cat hkpf hr3 (by rw [iV_length, iV_length, sizeLine_eq]; omega) fun r4 hr4 => ?_
        rw [← iV_append, ← hsp]
        have e_f : Ext Ha Hf := track (Z := []) e_e (fun u hu => Or.inr (by
          rcases st2.old u hu with h | h
          · exact hnps u h
          · exact e_b.free h)) (st3.only.mono fun u hu => by simpa using hu)
        have e_g := e_f.new (o := .lst (iV (written lays row))) hr4
        have hr4v : (upd Hf r4 (.lst (iV (written lays row)))) r4 = some (.lst (iV (written lays row))) := upd_same
        generalize (upd Hf r4 (.lst (iV (written lays row)))) = Hg at *
        have bg := ba.ext e_g
        wtm_at "x"
        refine x_written (bg.md.handed bg.hr) oks few (SqL.of bg.hrr) hby hlen4 fun Hh st9 e9h hst90 hst9 => ?_
        refine x_eqD (dp_row (SqL.of (e9h r4 _ hr4v (by simp)))) (dp_row (SqL.of hst9)) (row_shaped _) (row_shaped _) ?_
        rw [row_eqv, decide_eq_true rfl]
        exact q _
      · have hwh := e8i wh _ hwh8 (by simp)
        have hwr := e8i wr _ hwr8 (by simp)
        have hwv := hwv8'.ext e8i
        rcases hph with ⟨hnone, rfl, qs1, hRi, ngg, ncr, nts, hq8⟩ | ⟨flt, tf, hsome, rfl, hFl, ys, hys, hy8⟩
        · generalize hRf : rseq (rone lays.length) (lays.reverse.map newR) str = Rf at *
          obtain ⟨o, ssE, fl⟩ := Rf
          have hnone' : fl = none := hnone
          subst hnone'
          dsimp only at *
          rw [hra] at fit1 hwr hwv
          dsimp only at fit1 hwr hwv
          rw [List.length_append] at fit1
          have hyi := hRi.ob
          have nggy : gg ∉ y :: flat qs1 := fun z => by
            rcases List.mem_cons.mp z with z | z
            · rw [z, hyi] at hgg
              cases hgg
            · exact ngg z
          have old8 : ∀ x, x ∈ y :: flat qs1 → x ∈ ([] : List Addr) ∨ H8 x = none := fun x hx => Or.inr (by
            rcases List.mem_cons.mp hx with z | z
            · rw [z]; exact ny
            · exact hq8 x z)
          wtm_at "x"
          refine Or.inr ⟨y, cy, dy, qs1, ssE, rfl, hRi, by omega, fun hno H3 tp r2 htp hr2 htp0 hr20 o3 => ?_, fun flt hflt H3 tp r2 tf htp hr2 htf htp0 hr20 htf0 o3 => ?_⟩
          · have e83 := track (Z := []) e8i old8 o3
            have hwh3 := e83 wh _ hwh8 (by simp)
            rw [hno] at hwv
            have hwr3 : H3 wr = some (.lst (iV (o ++ (rendAll ssE.length ssE).1))) := by
              have := e83 wr _ hwr8 (by simp)
              rw [this, hra]
            have hwv3 : FltAt H6 H3 wv none := hwv
            wtm_at "x"
            refine x_or ?_
            refine x_and ?_
            wtm_at "x"
            refine ite_nd (fun z => absurd rfl z) fun _ => ?_
            try refine iteF ?_
            wtm_at "x"
            refine x_ixT (SqT.of htp) (at_of (j := 0) rfl rfl) ?_
            refine x_cat (o3 gg _ hgg nggy) hr2 (by rw [iV_length, iV_length, sizeLine_eq]; omega) ?_
            rw [← iV_append]
            intro g4 n_g4
            have e_g4 : Ext H3 (upd H3 g4 (.lst (iV (o ++ (rendAll ssE.length ssE).1)))) := Only'.put0 Only'.refl n_g4
            have h_g4 : (upd H3 g4 (.lst (iV (o ++ (rendAll ssE.length ssE).1)))) g4 = some (.lst (iV (o ++ (rendAll ssE.length ssE).1))) := upd_same
            generalize (upd H3 g4 (.lst (iV (o ++ (rendAll ssE.length ssE).1)))) = H4 at *
            wtm_at "x"
            refine x_ixT (SqT.of (e_g4 tp _ htp (by simp))) (at_of (j := 1) rfl rfl) ?_
            wtm_at "x"
            intro t5 n_t5
            have e_t5 : Ext H4 (upd H4 t5 (.tup [V.ref g4, V.non])) := Only'.put0 Only'.refl n_t5
            have h_t5 : (upd H4 t5 (.tup [V.ref g4, V.non])) t5 = some (.tup [V.ref g4, V.non]) := upd_same
            generalize (upd H4 t5 (.tup [V.ref g4, V.non])) = H5b at *
            have e35 := e_g4.trans e_t5
            wtm_at "x"
            refine x_neD (dp_told (H0 := H6) (fo := none) h_t5 (e_t5 g4 _ h_g4 (by simp)) rfl) (dp_told (H0 := H6) (fo := none) (e35 wh _ hwh3 (by simp)) (e35 wr _ hwr3 (by simp)) (hwv3.ext e35)) (told_shaped _ _) (told_shaped _ _) ?_
            rw [told_eqv, decide_eq_true rfl, decide_eq_true rfl]
            wtm_at "x"
            try refine iteF ?_
            wtm_at "x"
            exact hR _ _ ⟨⟨_, rfl⟩, e83.trans e35⟩
          · have e83 := track (Z := []) e8i old8 o3
            have hwh3 := e83 wh _ hwh8 (by simp)
            have hwr3 : H3 wr = some (.lst (iV (o ++ (rendAll ssE.length ssE).1))) := by
              have := e83 wr _ hwr8 (by simp)
              rw [this, hra]
            have hwv3 : FltAt H6 H3 wv (some flt) := by
              have h := hwv8'.ext e83
              rw [hra] at h
              dsimp only at h
              rw [hflt] at h
              exact h
            wtm_at "x"
            refine x_or ?_
            refine x_and ?_
            wtm_at "x"
            refine ite_nd (fun z => absurd rfl z) fun _ => ?_
            try refine iteF ?_
            wtm_at "x"
            refine x_ixT (SqT.of htp) (at_of (j := 0) rfl rfl) ?_
            refine x_cat (o3 gg _ hgg nggy) hr2 (by rw [iV_length, iV_length, sizeLine_eq]; omega) ?_
            rw [← iV_append]
            intro g4 n_g4
            have e_g4 : Ext H3 (upd H3 g4 (.lst (iV (o ++ (rendAll ssE.length ssE).1)))) := Only'.put0 Only'.refl n_g4
            have h_g4 : (upd H3 g4 (.lst (iV (o ++ (rendAll ssE.length ssE).1)))) g4 = some (.lst (iV (o ++ (rendAll ssE.length ssE).1))) := upd_same
            generalize (upd H3 g4 (.lst (iV (o ++ (rendAll ssE.length ssE).1)))) = H4 at *
            wtm_at "x"
            refine x_ixT (SqT.of (e_g4 tp _ htp (by simp))) (at_of (j := 1) rfl rfl) ?_
            wtm_at "x"
            intro t5 n_t5
            have e_t5 : Ext H4 (upd H4 t5 (.tup [V.ref g4, V.ref tf])) := Only'.put0 Only'.refl n_t5
            have h_t5 : (upd H4 t5 (.tup [V.ref g4, V.ref tf])) t5 = some (.tup [V.ref g4, V.ref tf]) := upd_same
            generalize (upd H4 t5 (.tup [V.ref g4, V.ref tf])) = H5b at *
            have e35 := e_g4.trans e_t5
            have hf5 : FltAt Hi H5b (.ref tf) (some flt) := ⟨tf, rfl, htf0, e35 tf _ htf (by simp)⟩
            wtm_at "x"
            refine x_neD (dp_told h_t5 (e_t5 g4 _ h_g4 (by simp)) hf5) (dp_told (e35 wh _ hwh3 (by simp)) (e35 wr _ hwr3 (by simp)) (hwv3.ext e35)) (told_shaped _ _) (told_shaped _ _) ?_
            rw [told_eqv, decide_eq_true rfl, decide_eq_true rfl]
            wtm_at "x"
            try refine iteF ?_
            wtm_at "x"
            exact hR _ _ ⟨⟨_, rfl⟩, e83.trans e35⟩
        · generalize hRf : rseq (rone lays.length) (lays.reverse.map newR) str = Rf at *
          obtain ⟨o, ssE, fl⟩ := Rf
          have hsome' : fl = some flt := hsome
          subst hsome'
          dsimp only at *
          rw [hra] at fit1 hwr hwv
          dsimp only at fit1 hwr hwv
          have hyi := hFl.ob
          wtm_at "x"
          refine Or.inl ⟨y, cy, dy, tf, ys.length, flt, rfl, hFl, ⟨ys, hys, rfl, hy8⟩, fun H3 tp r2 e3 htp hr2 htp0 hr20 => ?_⟩
          wtm_at "x"
          refine x_or ?_
          refine x_and ?_
          wtm_at "x"
          refine ite_nd (fun _ => ?_) fun z => nomatch z
          wtm_at "x"
          intro le n_le
          have e_le : Ext H3 (upd H3 le (.lst [])) := Only'.put0 Only'.refl n_le
          have h_le : (upd H3 le (.lst [])) le = some (.lst []) := upd_same
          generalize (upd H3 le (.lst [])) = H4 at *
          wtm_at "x"
          intro te n_te
          have e_te : Ext H4 (upd H4 te (.tup [V.ref le, V.ref tf])) := Only'.put0 Only'.refl n_te
          have h_te : (upd H4 te (.tup [V.ref le, V.ref tf])) te = some (.tup [V.ref le, V.ref tf]) := upd_same
          generalize (upd H4 te (.tup [V.ref le, V.ref tf])) = H5b at *
          have e35 := e_le.trans e_te
          have hf5 : FltAt H8 H5b (.ref tf) (some flt) := hfv.ext (e3.trans e35)
          refine x_neD (dp_told (row := []) (e35 tp _ htp (by simp)) (e35 r2 _ hr2 (by simp)) hf5) (dp_told (row := []) h_te (e_te le _ h_le (by simp)) hf5) (told_shaped _ _) (told_shaped _ _) ?_
          rw [told_eqv, decide_eq_true rfl, decide_eq_true rfl]
          wtm_at "x"
          try refine iteF ?_
          wtm_at "x"
          have htp5 := e35 tp _ htp (by simp)
          have hr25 := e35 r2 _ hr2 (by simp)
          refine x_ixT (SqT.of htp5) (at_of (j := 0) rfl rfl) ?_
          refine x_cat (ys := iV []) ((e3.trans e35) gg _ hgg (by simp)) hr25 (by rw [iV_length, iV_length, sizeLine_eq]; simpa using (by omega : o.length ≤ 16777216)) ?_
          rw [← iV_append, List.append_nil]
          intro g4 n_g4
          have e_g4 : Ext H5b (upd H5b g4 (.lst (iV o))) := Only'.put0 Only'.refl n_g4
          have h_g4 : (upd H5b g4 (.lst (iV o))) g4 = some (.lst (iV o)) := upd_same
          generalize (upd H5b g4 (.lst (iV o))) = H6b at *
          wtm_at "x"
          refine x_ixT (SqT.of (e_g4 tp _ htp5 (by simp))) (at_of (j := 1) rfl rfl) ?_
          wtm_at "x"
          intro t5 n_t5
          have e_t5 : Ext H6b (upd H6b t5 (.tup [V.ref g4, V.ref tf])) := Only'.put0 Only'.refl n_t5
          have h_t5 : (upd H6b t5 (.tup [V.ref g4, V.ref tf])) t5 = some (.tup [V.ref g4, V.ref tf]) := upd_same
          generalize (upd H6b t5 (.tup [V.ref g4, V.ref tf])) = H7b at *
          have e57 := e_g4.trans e_t5
          have e37 := (e3.trans e35).trans e57
          wtm_at "x"
          refine x_neD (dp_told h_t5 (e_t5 g4 _ h_g4 (by simp)) (hf5.ext e57)) (dp_told (e37 wh _ hwh (by simp)) (e37 wr _ hwr (by simp)) (hwv.ext e37)) (told_shaped _ _) (told_shaped _ _) ?_
          rw [told_eqv, decide_eq_true rfl, decide_eq_true rfl]
          wtm_at "x"
          try refine iteF ?_
          wtm_at "x"
          exact hR _ _ ⟨⟨_, rfl⟩, e8i.trans e37⟩
end
end Flow

namespace Flow
open PySem PySem.Spec PyProof.Rows L2
theorem law_facts {P : Program} {w : World} {K : PySem.W.Frag} {h : Heap} {mg : Str → Option Value} {f : Addr} (X : K.In h) (G : h.Ns mainGlobals mg) (hfa : mg ("law" : Str) = some (.ref f)) (c : He.SaysX fa fn [] [] exB w h K) :
    ∃ fd : FuncData, (∀ (s : Shared) (v : Value), BindsTo s fd ⟨[v], []⟩ [("_law_script", v)]) ∧ ∀ base : Heap, K.In base → base.Ns mainGlobals mg → FnOk P w K mg base CX0 18 f fd ["_law_script"] (fun vs H Q _ => spLaw K vs H Q E0) := by
  have T : Tx K mg := ⟨c.t.d, c.more, ⟨h, X, G⟩⟩
  obtain ⟨fd, F⟩ := fn_law T
  have e := hfa.symm.trans (g_law T)
  cases e
  have b := FunD.bindsA (ps := ["_law_script"]) F fun _ _ _ _ _ _ us hl => match us, hl with | [_], _ => rfl
  exact ⟨fd, fun s v => b s [v] rfl, fun base _ _ => nox (ok_law T F)⟩
end Flow
open PySem PySem.W PySem.Calls PyProof.Rows
theorem PySem.Challenge.cw_flowstack_k14_whole_faults_in_pieces_holds : PySem.Challenge.rw_flowstack_k14_whole_faults_in_pieces.Holds := by
  w_on; o_law
  refine HandSHeadRun.head_any (r := OpenLaw.row PySem.Challenge.rw_flowstack_k14_whole_faults_in_pieces) (q := view (OpenLaw.row PySem.Challenge.rw_flowstack_k14_whole_faults_in_pieces).prog [50]) (H := Flow.hk) (ob := Flow.ob) (M := 20000) (loose := Flow.loose) (d := HandSHeadRun.topDef (OpenLaw.row PySem.Challenge.rw_flowstack_k14_whole_faults_in_pieces).prog 50) (kwd := []) Flow.ob_eq
    (by kernel_rfl) (fun s => by kernel_rfl) Flow.run (by kernel_rfl) (by kernel_rfl) (by kernel_rfl) (by rfl) (by first | assumption | decide +kernel) (by decide +kernel) ⟨rfl, rfl, rfl, rfl, rfl, by decide +kernel⟩ ?hw ?hc
  case hw => w_witness2
  case hc =>
    refine L2.walk_ofE (l := PySem.Challenge.rw_flowstack_k14_whole_faults_in_pieces) (n := 63) (k := 18) (x := "_law_script") (CX := L2.CX0) rfl (by decide) (by kernel_rfl) ⟨rfl, by decide, by decide⟩ ?F (fun _ _ _ _ z => z)
    intro w mg fa h Y G hmg0
    obtain ⟨K, KX, c⟩ := Y
    have hmg : mg ("law" : PySem.Str) = some (.ref fa) := by
      have e : (HandSHeadRun.topDef (OpenLaw.row PySem.Challenge.rw_flowstack_k14_whole_faults_in_pieces).prog 50).name = ("law" : PySem.Str) := by kernel_rfl
      rw [← e]
      exact hmg0
    obtain ⟨fd, hb, hF⟩ := Flow.law_facts (P := (PySem.Challenge.rw_flowstack_k14_whole_faults_in_pieces).prog) (w := w) KX G hmg c
    exact ⟨K, fd, _, KX, hb, fun H a ns hl _ hS => ⟨a, ns, rfl, hS, fun _ => rfl⟩, hF⟩
