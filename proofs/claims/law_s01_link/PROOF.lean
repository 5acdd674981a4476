import PyProof.Rows.All
import Wide.All
import OpenK.AllK
import Wide.FinOn
import PyProof.EqAt
import PyProof.EqKinds
import PyProof.TupleCall
import Open.SpecLaws
import KE.OsGo
import HandS.ForMost
import HandS.ForSpec
import HandS.Evl
import HandS.Defaults
import HandS.Head0
import HandS.Head1
import HandS.Head2
import HandS.HeadHook1
import HandS.HeadHook2
import PySem.Challenge.RW_objectlinker_s01_link
import HandS.Style
import Sn17Spec
import Sn17Neutral
import PySn17
set_option Elab.async false
set_option linter.all false
set_option maxRecDepth 100000
set_option maxHeartbeats 4000000
/-! # The layer of this proof: bundles of callees, evaluation, loops over maps -/
namespace Lk
open PySem PySem.Spec PyProof.Rows L2 Evl He

/-! ### callees in bundles: all of them in the context L2.CX, what raises nothing by E0 and passL -/
structure Cal (P : Program) (w : World) (K : PySem.W.Frag) (mg : Str → Option Value) (base : Heap) (k : Nat) (x : Str) (sp : Sp) : Prop where
  ex : ∃ (f : Addr) (fd : FuncData) (ps : List Str), FnOk P w K mg base (L2.CX P w) k f fd ps sp ∧ mg x = some (.ref f) ∧ PySem.W.keepIn K (.ref f) = true ∧ Binds K fd ps []
structure Met (P : Program) (w : World) (K : PySem.W.Frag) (mg : Str → Option Value) (base : Heap) (k : Nat) (C : Addr) (m : Str) (sp : Sp) : Prop where
  ex : ∃ (f : Addr) (fd : FuncData) (ps : List Str), Cls K C ∧ Meth K C m f ∧ FnOk P w K mg base (L2.CX P w) k f fd ps sp ∧ Binds K fd ps []
structure Mak (P : Program) (w : World) (K : PySem.W.Frag) (mg : Str → Option Value) (base : Heap) (k : Nat) (x : Str) (C : Addr) (sp : Sp) : Prop where
  ex : ∃ (f : Addr) (fd : FuncData) (ps : List Str), Mk K C f ∧ FnOk P w K mg base (L2.CX P w) k f fd ps sp ∧ mg x = some (.ref C) ∧ Binds K fd ps []
section
variable {P : Program} {w : World} {K : PySem.W.Frag} {mg : Str → Option Value} {base : Heap}
variable {x qual : Str} {params : Arguments} {body : List Stmt} {scope : Scope} {f : Addr} {fd : FuncData} {N ps : List Str} {k : Nat} {sp : Sp}
theorem fnok_of (F : FunD K x qual params body scope [] [] f fd) (S : FnScope N ps scope) (len : ∀ vs H Q E, sp vs H Q E → vs.length = ps.length)
    (hbody : ∀ (cdv : Value) (A : Around) (outer : List Env) (s : Shared) (H : Hp) (vs : List V) (Q : VK) (E : XK), Room k (A.deeper (envOfC qual scope s.heap.objs.size f cdv)) → sp vs H Q E →
      ∃ t, PSs (cxOf (L2.CX P w) P w K mg base N qual scope f cdv A outer s H E) body t ∧ t { nx := fun _ H' => Q .non H', rt := Q } (start N vs) H) : FnOk P w K mg base (L2.CX P w) (k + 1) f fd ps sp := F.ok S len hbody
theorem cal_of (F : FunD K x qual params body scope [] [] f fd) (hm : mg x = some (.ref f)) (S : FnScope N ps scope) (len : ∀ vs H Q E, sp vs H Q E → vs.length = ps.length)
    (bind : ∀ (kV doc pm : Value) (an : Option Addr) (cdv ct : Value) (us : List Value), us.length = ps.length → bindArgs (PySem.W.fnOf x qual params body scope .none kV doc pm an cdv ct) ⟨us, []⟩ = pure (ps.zip us))
    (hbody : ∀ (cdv : Value) (A : Around) (outer : List Env) (s : Shared) (H : Hp) (vs : List V) (Q : VK) (E : XK), Room k (A.deeper (envOfC qual scope s.heap.objs.size f cdv)) → sp vs H Q E →
      ∃ t, PSs (cxOf (L2.CX P w) P w K mg base N qual scope f cdv A outer s H E) body t ∧ t { nx := fun _ H' => Q .non H', rt := Q } (start N vs) H) : Cal P w K mg base (k + 1) x sp :=
  ⟨f, fd, ps, F.ok S len hbody, hm, F.kp, F.bindsN bind⟩
theorem met_of {C : Addr} {m : Str} (F : FunD K x qual params body scope [] [] f fd) (c : Cls K C) (hm : Meth K C m f) (S : FnScope N ps scope) (len : ∀ vs H Q E, sp vs H Q E → vs.length = ps.length)
    (bind : ∀ (kV doc pm : Value) (an : Option Addr) (cdv ct : Value) (us : List Value), us.length = ps.length → bindArgs (PySem.W.fnOf x qual params body scope .none kV doc pm an cdv ct) ⟨us, []⟩ = pure (ps.zip us))
    (hbody : ∀ (cdv : Value) (A : Around) (outer : List Env) (s : Shared) (H : Hp) (vs : List V) (Q : VK) (E : XK), Room k (A.deeper (envOfC qual scope s.heap.objs.size f cdv)) → sp vs H Q E →
      ∃ t, PSs (cxOf (L2.CX P w) P w K mg base N qual scope f cdv A outer s H E) body t ∧ t { nx := fun _ H' => Q .non H', rt := Q } (start N vs) H) : Met P w K mg base (k + 1) C m sp :=
  ⟨f, fd, ps, c, hm, F.ok S len hbody, F.bindsN bind⟩
theorem mak_of {y : Str} {C : Addr} (F : FunD K x qual params body scope [] [] f fd) (M : Mk K C f) (hm : mg y = some (.ref C)) (S : FnScope N ps scope) (len : ∀ vs H Q E, sp vs H Q E → vs.length = ps.length)
    (bind : ∀ (kV doc pm : Value) (an : Option Addr) (cdv ct : Value) (us : List Value), us.length = ps.length → bindArgs (PySem.W.fnOf x qual params body scope .none kV doc pm an cdv ct) ⟨us, []⟩ = pure (ps.zip us))
    (hbody : ∀ (cdv : Value) (A : Around) (outer : List Env) (s : Shared) (H : Hp) (vs : List V) (Q : VK) (E : XK), Room k (A.deeper (envOfC qual scope s.heap.objs.size f cdv)) → sp vs H Q E →
      ∃ t, PSs (cxOf (L2.CX P w) P w K mg base N qual scope f cdv A outer s H E) body t ∧ t { nx := fun _ H' => Q .non H', rt := Q } (start N vs) H) : Mak P w K mg base (k + 1) y C sp :=
  ⟨f, fd, ps, M, F.ok S len hbody, hm, F.bindsN bind⟩
end
section
variable {X : Cx} {k : Nat} {x m : Str} {C : Addr} {sp : Sp} {E : XK} {p pos apos : Pos} {e o : Expr} {es : List Expr} {t : TA} {ta : TE}
theorem pe_cal (F : Cal X.prog X.w X.K X.mg X.base k x sp) (hr : Room k X.A) (hx : Passes (L2.CX X.prog X.w) X E) (ha : PA X (e :: es) t) (hg : Gl X x := by rfl) (hdb : (x == ("__debug__" : Str)) = false := by decide)
    (he : starEach (e :: es) X.env = (false, eval e X.env) :: starEach es X.env := by rfl) (hpl : (backTo pos (starEach es X.env)).any (·.1) = false := by rfl) :
    PE X (.Call (.Name x p) (e :: es) [] pos) (tCall sp [] E t) := by
  obtain ⟨f, fd, ps, G, hm, hk, hb⟩ := F.ex
  exact pe_call G hr hg hm hk hb .nil hx ha hdb he hpl
theorem pe_mak (F : Mak X.prog X.w X.K X.mg X.base k x C sp) (hr : Room (k + 1) X.A) (hx : Passes (L2.CX X.prog X.w) X E) (ha : PA X (e :: es) t) (hg : Gl X x := by rfl) (hdb : (x == ("__debug__" : Str)) = false := by decide)
    (he : starEach (e :: es) X.env = (false, eval e X.env) :: starEach es X.env := by rfl) (hpl : (backTo pos (starEach es X.env)).any (·.1) = false := by rfl) :
    PE X (.Call (.Name x p) (e :: es) [] pos) (tMake C sp [] E t) := by
  obtain ⟨f, fd, ps, M, G, hm, hb⟩ := F.ex
  exact pe_make M G hr hg hm hb .nil hx ha hdb he hpl
theorem pe_mak0 (F : Mak X.prog X.w X.K X.mg X.base k x C sp) (hr : Room (k + 1) X.A) (hx : Passes (L2.CX X.prog X.w) X E) (hg : Gl X x := by rfl) (hdb : (x == ("__debug__" : Str)) = false := by decide) :
    PE X (.Call (.Name x p) [] [] pos) (tMake C sp [] E tNil) := by
  obtain ⟨f, fd, ps, M, G, hm, hb⟩ := F.ex
  exact pe_make0 M G hr hg hm hb .nil hx hdb
theorem pe_met {pl : Sem Bool} (F : Met X.prog X.w X.K X.mg X.base k C m sp) (hr : Room k X.A) (hx : Passes (L2.CX X.prog X.w) X E) (he : PE X o ta) (ha : PA X (e :: es) t)
    (hst : starEach (e :: es) X.env = (false, eval e X.env) :: starEach es X.env := by rfl) (hpl : (backTo pos (starEach es X.env)).any (·.1) = false := by rfl)
    (ht : eval (.Call (.Attribute o m apos) (e :: es) [] pos) X.env = (do
      let ov ← eval o X.env
      standAt apos.atName
      let (f, first) ← holding [ov] (getMethod ov m pl)
      callWith pos f first (backTo pos (starEach (e :: es) X.env)) (backToKw pos (keywordEach [] X.env))) := by rfl) :
    PE X (.Call (.Attribute o m apos) (e :: es) [] pos) (tMeth C m sp [] E ta t) := by
  obtain ⟨f, fd, ps, c, hm, G, hb⟩ := F.ex
  exact pe_meth he c hm G hr hb .nil hx ha hst hpl ht
theorem pe_met0 {pl : Sem Bool} (F : Met X.prog X.w X.K X.mg X.base k C m sp) (hr : Room k X.A) (hx : Passes (L2.CX X.prog X.w) X E) (he : PE X o ta)
    (ht : eval (.Call (.Attribute o m apos) [] [] pos) X.env = (do
      let ov ← eval o X.env
      standAt apos.atName
      let (f, first) ← holding [ov] (getMethod ov m pl)
      callWith pos f first (backTo pos (starEach [] X.env)) (backToKw pos (keywordEach [] X.env))) := by rfl) :
    PE X (.Call (.Attribute o m apos) [] [] pos) (tMeth C m sp [] E ta tNil) := by
  obtain ⟨f, fd, ps, c, hm, G, hb⟩ := F.ex
  exact pe_meth0 he c hm G hr hb .nil hx ht
theorem pe_gi {n : Int} (h : ∃ t, X.mg x = some (.int n t)) (hg : Gl X x := by rfl) (hd : (x == ("__debug__" : Str)) = false := by decide) : PE X (.Name x pos) (tC (.int n)) := by
  obtain ⟨t, h⟩ := h
  exact pe_glob hg h ⟨t, rfl⟩ hd
theorem pe_gr {a : Addr} (h : X.mg x = some (.ref a)) (hg : Gl X x := by rfl) (hd : (x == ("__debug__" : Str)) = false := by decide) : PE X (.Name x pos) (tC (.ref a)) := pe_glob hg h rfl hd
end

/-! ### what leaves a def: an error of Broken with its code -/
def BK (K : PySem.W.Frag) : Addr := ga K "Broken"
def Err (K : PySem.W.Frag) (E : XK) (c : Int) : Prop := ∀ (d : Addr) (H : Hp), H d = some (.xd [(("code" : Str), .int c)]) → E (.ref (BK K)) (some d) H

/-! ### evaluation -/
def EvR (te : TE) (σ : L2.St) (H : Hp) (R : V → Hp → Hp → Prop) : Prop := ∀ H1, Ex H H1 → ∀ Q : VK, (∀ v H2, Ex H1 H2 → R v H1 H2 → Q v H2) → te σ H1 Q
def SpR (sp : Sp) (vs : List V) (H : Hp) (R : V → Hp → Hp → Prop) : Prop := ∀ H1, Ex H H1 → ∀ Q : VK, (∀ v H2, Ex H1 H2 → R v H1 H2 → Q v H2) → ∀ E : XK, sp vs H1 Q E
/-- a field -/
def Fl (K : PySem.W.Frag) (H : Hp) (a : Addr) (f : Str) (v : V) : Prop := ∃ C dx fs, H a = some (.ins C dx fs) ∧ Cls K C ∧ NoAttr K C f ∧ fs.lookup f = some v
/-- a method's name is no field -/
def HasM (H : Hp) (a C : Addr) (m : Str) : Prop := ∃ dx fs, H a = some (.ins C dx fs) ∧ fs.lookup m = none
section
variable {K : PySem.W.Frag} {σ : L2.St} {H H' : Hp} {ta tb te : TE} {t u : TT} {x y z v : V} {a : Addr} {f m : Str} {C : Addr} {sp : Sp} {E : XK} {at_ : TA} {vs : List V} {D : Ends} {tu tw tz : TS} {R : V → Hp → Hp → Prop}
theorem Fl.mono (h : Fl K H a f v) (e : Ex H H') : Fl K H' a f v := by
  obtain ⟨C, dx, fs, h1, h2, h3, h4⟩ := h
  exact ⟨C, dx, fs, e _ _ h1, h2, h3, h4⟩
theorem HasM.mono (h : HasM H a C m) (e : Ex H H') : HasM H' a C m := by
  obtain ⟨dx, fs, h1, h2⟩ := h
  exact ⟨dx, fs, e _ _ h1, h2⟩
theorem ev_fl (h : Ev te σ H (.ref a)) (F : Fl K H a f v) : Ev (tFld K te f) σ H v := fun H1 e Q q => h H1 e _ fun H2 e2 => by
  obtain ⟨C, dx, fs, h1, h2, h3, h4⟩ := F
  exact ⟨a, C, dx, fs, v, rfl, e2 _ _ (e _ _ h1), h2, h3, h4, q H2 e2⟩
theorem ev_met (h : Ev ta σ H (.ref a)) (hm : HasM H a C m) (ht : EvA at_ σ H vs) (hs : SpV sp (.ref a :: vs) H z) : Ev (tMeth C m sp [] E ta at_) σ H z := fun H1 e Q q =>
  h H1 e _ fun H2 e2 => by
    obtain ⟨dx, fs, h1, h2⟩ := hm
    refine ⟨a, dx, fs, rfl, e2 _ _ (e _ _ h1), h2, ht H2 (e.trans e2) _ fun H3 e3 => ?_⟩
    rw [List.append_nil]
    exact hs H3 ((e.trans e2).trans e3) Q (fun H4 e4 => q H4 ((e2.trans e3).trans e4)) E
theorem ev_cal (h : EvA at_ σ H vs) (hs : SpV sp vs H z) : Ev (tCall sp [] E at_) σ H z := ev_call h (by rw [List.append_nil]; exact hs)
theorem er_cal (h : EvA at_ σ H vs) (hs : SpR sp vs H R) (mono : ∀ v H1 H2 H3, Ex H1 H2 → R v H2 H3 → R v H1 H3) : EvR (tCall sp [] E at_) σ H R := fun H1 e Q q =>
  h H1 e _ fun H2 e2 => by
    rw [List.append_nil]
    exact hs H2 (e.trans e2) Q (fun v H3 e3 r => q v H3 (e2.trans e3) (mono _ _ _ _ e2 r)) E
theorem er_met (h : Ev ta σ H (.ref a)) (hm : HasM H a C m) (ht : EvA at_ σ H vs) (hs : SpR sp (.ref a :: vs) H R) (mono : ∀ v H1 H2 H3, Ex H1 H2 → R v H2 H3 → R v H1 H3) : EvR (tMeth C m sp [] E ta at_) σ H R := fun H1 e Q q =>
  h H1 e _ fun H2 e2 => by
    obtain ⟨dx, fs, h1, h2⟩ := hm
    refine ⟨a, dx, fs, rfl, e2 _ _ (e _ _ h1), h2, ht H2 (e.trans e2) _ fun H3 e3 => ?_⟩
    rw [List.append_nil]
    exact hs H3 ((e.trans e2).trans e3) Q (fun v H4 e4 r => q v H4 ((e2.trans e3).trans e4) (mono _ _ _ _ (e2.trans e3) r)) E
/-- all but p stands -/
def Up (p : Addr) (H H' : Hp) : Prop := ∀ b o, H b = some o → b ≠ p → H' b = some o
theorem Up.refl (p : Addr) (H : Hp) : Up p H H := fun _ _ h _ => h
theorem Up.ex {p : Addr} (e : Ex H H') : Up p H H' := fun b o h _ => e b o h
theorem Up.trans {p : Addr} {H1 H2 H3 : Hp} (a : Up p H1 H2) (b : Up p H2 H3) : Up p H1 H3 := fun c o h n => b c o (a c o h n) n
theorem Up.upd {p : Addr} {o : HO} (a : Up p H H') : Up p H (upd H' p o) := fun c u h n => by
  rw [upd_ne n]
  exact a c u h n
theorem Up.rd {p : Addr} {u : HO} (a : Up p H H') (q : ∀ o, H p = some o → o ≠ u ∧ ∀ ob, o ≠ .frz ob u) {b : Addr} (h : Rd H b u) : Rd H' b u := by
  rcases h with h | ⟨o, h⟩
  · refine .inl (a b _ h fun z => ?_)
    subst z
    exact (q _ h).1 rfl
  · refine .inr ⟨o, a b _ h fun z => ?_⟩
    subst z
    exact (q _ h).2 o rfl
theorem Up.sqL {p : Addr} {C dx : Addr} {fs : List (Str × V)} (a : Up p H H') (q : H p = some (.ins C dx fs)) {b : Addr} {xs : List V} (h : SqL K H b xs) : SqL K H' b xs := by
  rcases h with h | h
  · refine .inl (a.rd (fun o e => ?_) h)
    rw [q] at e
    cases e
    exact ⟨(fun z => nomatch z), (fun ob z => nomatch z)⟩
  · exact .inr h
theorem Up.of {p b : Addr} {o u : HO} (a : Up p H H') (q : H p = some u) (h : H b = some o) (n : o ≠ u) : H' b = some o := a b o h (ne_of h q n)
/-- a new instance: its __init__ by a promise of this form -/
theorem Up.made {H1 : Hp} {x dx C : Addr} (nx : H x = none) (nd : H dx = none) (k : Up x (L2.upd (L2.upd H dx (.own x)) x (.ins C dx [])) H1) : Ex H H1 := fun b o e =>
  k b o (by rw [upd_ne (ne_of_none e nx), upd_ne (ne_of_none e nd)]; exact e) (ne_of_none e nx)

/-! ### results of more than a value -/
theorem EvR.of (h : Ev te σ H v) : EvR te σ H (fun v' H1 _ => v' = v) := fun H1 e Q q => h H1 e Q fun H2 e2 => q v H2 e2 rfl
theorem EvR.mono (e : Ex H H') (h : EvR te σ H R) : EvR te σ H' R := fun H1 a Q q => h H1 (e.trans a) Q q
theorem EvL.r {xs : List V} (h : EvL te σ H xs) : EvR te σ H (fun v H1 H2 => ∃ p, v = .ref p ∧ H1 p = none ∧ H2 p = some (.lst xs)) := fun H1 e Q q => h H1 e Q fun p H2 hp e2 h2 => q _ H2 e2 ⟨p, rfl, hp, h2⟩
theorem s_asgR {i : Nat} (h : EvR te σ H R) (k : ∀ v H1, Ex H H1 → R v H H1 → D.nx (σ.set i (some v)) H1) : tAsg te (gName i) D σ H := h H (Ex.refl H) _ fun v H1 e r => k v H1 e r
theorem q_asgR {i : Nat} (h : EvR te σ H R) (k : ∀ v H1, Ex H H1 → R v H H1 → tz D (σ.set i (some v)) H1) : tSeq (tAsg te (gName i)) tz D σ H := s_asgR (D := { D with nx := tz D }) h k
theorem s_retR (h : EvR te σ H R) (k : ∀ v H1, Ex H H1 → R v H H1 → D.rt v H1) : tRet te D σ H := h H (Ex.refl H) _ k
/-- o.f = e -/
theorem s_fld {dx : Addr} {fs : List (Str × V)} (hv : Ev te σ H v) (ho : Ev ta σ H (.ref a)) (h : H a = some (.ins C dx fs)) (c : Cls K C) (n : NoAttr K C f) (hl : fs.length < 1000)
    (k : ∀ H1, Ex H H1 → D.nx σ (upd H1 a (.ins C dx (putF f v fs)))) : sFld K ta te f D σ H := hv H (Ex.refl H) _ fun H1 e1 => ho H1 e1 _ fun H2 e2 =>
  ⟨a, C, dx, fs, rfl, e2 _ _ (e1 _ _ h), c, n, hl, k H2 (e1.trans e2)⟩
theorem q_fld {dx : Addr} {fs : List (Str × V)} (hv : Ev te σ H v) (ho : Ev ta σ H (.ref a)) (h : H a = some (.ins C dx fs)) (c : Cls K C) (n : NoAttr K C f) (hl : fs.length < 1000)
    (k : ∀ H1, Ex H H1 → tz D σ (upd H1 a (.ins C dx (putF f v fs)))) : tSeq (sFld K ta te f) tz D σ H := s_fld (D := { D with nx := tz D }) hv ho h c n hl k
theorem s_fldR {dx : Addr} {fs : List (Str × V)} (hv : EvR te σ H R) (ho : Ev ta σ H (.ref a)) (h : H a = some (.ins C dx fs)) (c : Cls K C) (n : NoAttr K C f) (hl : fs.length < 1000)
    (k : ∀ v H1 H2, Ex H H1 → Ex H1 H2 → R v H H1 → D.nx σ (upd H2 a (.ins C dx (putF f v fs)))) : sFld K ta te f D σ H := hv H (Ex.refl H) _ fun v H1 e1 r => ho H1 e1 _ fun H2 e2 =>
  ⟨a, C, dx, fs, rfl, e2 _ _ (e1 _ _ h), c, n, hl, k v H1 H2 e1 e2 r⟩
theorem q_fldR {dx : Addr} {fs : List (Str × V)} (hv : EvR te σ H R) (ho : Ev ta σ H (.ref a)) (h : H a = some (.ins C dx fs)) (c : Cls K C) (n : NoAttr K C f) (hl : fs.length < 1000)
    (k : ∀ v H1 H2, Ex H H1 → Ex H1 H2 → R v H H1 → tz D σ (upd H2 a (.ins C dx (putF f v fs)))) : tSeq (sFld K ta te f) tz D σ H := s_fldR (D := { D with nx := tz D }) hv ho h c n hl k
theorem et_yes : EvT tYes σ H true := fun H1 _ _ q => q H1 (Ex.refl H1)
theorem ev_ifs {b : Bool} (h : EvT t σ H b) (h1 : b = true → Ev ta σ H x) (h2 : b = false → Ev tb σ H y) : Ev (tIf t ta tb) σ H (if b = true then x else y) := ev_if h (fun e => by rw [if_pos e]; exact h1 e) (fun e => by rw [if_neg (by rw [e]; decide)]; exact h2 e)
theorem rv_D {r : R2} {z' : V} (h : RV r x y H z) (e : z = z') : RV r x y H z' := e ▸ h
/-- a < b < c -/
theorem ev_chain {r r' : R2} {w : V} {p q : Bool} {tc : TE} (ha : Ev ta σ H x) (hb : Ev tb σ H y) (hc : Ev tc σ H w) (hr : RV r x y H (.bl p)) (hr' : RV r' y w H (.bl q)) : Ev (tChain r r' ta tb tc) σ H (.bl (p && q)) := fun H1 e Q k =>
  ha H1 e _ fun H2 e2 => hb H2 (e.trans e2) _ fun H3 e3 => hr H3 ((e.trans e2).trans e3) _ fun H4 e4 => ⟨p, rfl, by
    cases p with
    | true =>
      show tc σ H4 fun w' H4 => r' y w' H4 Q
      exact hc H4 (((e.trans e2).trans e3).trans e4) _ fun H5 e5 => hr' H5 ((((e.trans e2).trans e3).trans e4).trans e5) Q fun H6 e6 => k H6 ((((e2.trans e3).trans e4).trans e5).trans e6)
    | false =>
      show Q (.bl false) H4
      exact k H4 ((e2.trans e3).trans e4)⟩
end

/-! ### lists that are maps: loops, comprehensions -/
section
variable {K : PySem.W.Frag} {σ : L2.St} {H H' : Hp} {ta tb te tl : TE} {t : TT} {D : Ends} {tu tz : TS} {α : Type} {L : List α} {f g : α → V} {a : Addr} {j : Nat} {vs : List Nat}
theorem split_at {L : List α} {i : Nat} {x : α} (h : L[i]? = some x) : L = L.take i ++ x :: L.drop (i + 1) ∧ L.take (i + 1) = L.take i ++ [x] := by
  obtain ⟨hi, e⟩ := List.getElem?_eq_some_iff.mp h
  subst e
  refine ⟨?_, ?_⟩
  · rw [← List.drop_eq_getElem_cons hi, List.take_append_drop]
  · rw [List.take_succ_eq_append_getElem hi]
theorem map_at {i : Nat} {y : V} (h : (L.map f)[i]? = some y) : ∃ x, L[i]? = some x ∧ y = f x := by
  rw [List.getElem?_map] at h
  cases e : L[i]? with
  | none =>
    rw [e] at h
    cases h
  | some x =>
    rw [e] at h
    exact ⟨x, rfl, (Option.some.inj h).symm⟩
/-- over a list that is a map: the word tells of the part taken -/
theorem s_forM (h : Ev tl σ H (.ref a)) (hx : SqL K H a (L.map f)) (Pv : List α → L2.St → Hp → Prop) (h0 : ∀ H1, Ex H H1 → Pv [] σ H1) (hl : ∀ pre σ' H', Pv pre σ' H' → SqL K H' a (L.map f))
    (hs : ∀ pre x post σ' H', L = pre ++ x :: post → Pv pre σ' H' → tu { D with nx := Pv (pre ++ [x]), ct := Pv (pre ++ [x]), bk := D.nx } (σ'.set j (some (f x))) H') (hd : ∀ σ' H', Pv L σ' H' → D.nx σ' H') : tFor (iList K tl) (gName j) tu D σ H :=
  s_forL h hx (fun i => Pv (L.take i)) (fun H1 e => h0 H1 e) (fun i σ' H' _ p => hl _ _ _ p) (fun i y σ' H' hi p => by
    obtain ⟨x, hx, rfl⟩ := map_at hi
    obtain ⟨e1, e2⟩ := split_at hx
    have z := hs (L.take i) x (L.drop (i + 1)) σ' H' e1 p
    show tu { D with nx := Pv (L.take (i + 1)), ct := Pv (L.take (i + 1)), bk := D.nx } (σ'.set j (some (f x))) H'
    rw [e2]
    exact z) (fun σ' H' p => hd σ' H' (by rw [List.length_map, List.take_length] at p; exact p))
theorem q_forM (h : Ev tl σ H (.ref a)) (hx : SqL K H a (L.map f)) (Pv : List α → L2.St → Hp → Prop) (h0 : ∀ H1, Ex H H1 → Pv [] σ H1) (hl : ∀ pre σ' H', Pv pre σ' H' → SqL K H' a (L.map f))
    (hs : ∀ pre x post σ' H', L = pre ++ x :: post → Pv pre σ' H' → tu { D with nx := Pv (pre ++ [x]), ct := Pv (pre ++ [x]), bk := tz D } (σ'.set j (some (f x))) H') (hd : ∀ σ' H', Pv L σ' H' → tz D σ' H') : tSeq (tFor (iList K tl) (gName j) tu) tz D σ H :=
  s_forM (D := { D with nx := tz D }) h hx Pv h0 hl hs hd
theorem cw_turnM {H H' : Hp} {p : α → Bool} {Dl : Addr} {pre : List α} {x : α} {σ2 : L2.St} (h1 : H Dl = none) (h2 : Ex H H') (h3 : H' Dl = some (.lst ((pre.filter p).map g))) (hz : pre.length < 16777216) (ht : EvT t σ2 H (p x)) (he : p x = true → Ev te σ2 H (g x)) :
    t σ2 H' fun b H3 => if b = true then te σ2 H3 fun y H4 => ∃ acc, H4 Dl = some (.lst acc) ∧ acc.length < sizeLine ∧ (H Dl = none ∧ Ex H (upd H4 Dl (.lst (acc ++ [y]))) ∧ (upd H4 Dl (.lst (acc ++ [y]))) Dl = some (.lst (((pre ++ [x]).filter p).map g)))
      else (H Dl = none ∧ Ex H H3 ∧ H3 Dl = some (.lst (((pre ++ [x]).filter p).map g))) := by
  refine ht H' h2 _ fun H3 e3 => ?_
  cases hf : p x with
  | true =>
    refine he hf H3 (h2.trans e3) _ fun H4 e4 => ⟨(pre.filter p).map g, e4 Dl _ (e3 Dl _ h3), ?_, h1, Ex.mut ((h2.trans e3).trans e4) h1, ?_⟩
    · rw [List.length_map, sizeLine_eq]
      exact Nat.lt_of_le_of_lt (List.length_filter_le ..) hz
    · rw [upd_same, List.filter_append, List.filter_cons, if_pos hf, List.map_append]
      rfl
  | false =>
    refine ⟨h1, h2.trans e3, ?_⟩
    rw [List.filter_append, List.filter_cons, if_neg (by rw [hf]; decide), List.filter_nil, List.append_nil]
    exact e3 Dl _ h3
theorem el_lcM {p : α → Bool} (h : Ev tl σ H (.ref a)) (hx : SqL K H a (L.map f)) (hz : L.length ≤ 16000000) (hw : ∀ x, wipe ((wipe σ vs).set j (some x)) vs = wipe σ vs)
    (ht : ∀ x ∈ L, ∀ H1, Ex H H1 → EvT t ((wipe σ vs).set j (some (f x))) H1 (p x)) (he : ∀ x ∈ L, ∀ H1, Ex H H1 → p x = true → Ev te ((wipe σ vs).set j (some (f x))) H1 (g x)) :
    EvL (tLc (iList K tl) (gName j) t te vs) σ H ((L.filter p).map g) := fun H0 e Q q => h H0 e _ fun H1 e1 => ⟨a, rfl, ⟨L.map f, ex_l (e.trans e1) hx⟩, fun Dl hD =>
  lc_list (xs := L.map f) (fun i H' => H1 Dl = none ∧ Ex H1 H' ∧ H' Dl = some (.lst (((L.take i).filter p).map g))) ⟨hD, Ex.new hD, upd_same⟩ (fun i H' _ z => ex_l ((e.trans e1).trans z.2.1) hx)
    (fun i y H' hi z => by
      obtain ⟨x, hx, rfl⟩ := map_at hi
      obtain ⟨e2, e3⟩ := split_at hx
      have hm : x ∈ L := List.mem_of_getElem? hx
      have hlt := (List.getElem?_eq_some_iff.mp hx).1
      refine ⟨hw _, ?_⟩
      rw [e3]
      exact cw_turnM z.1 z.2.1 z.2.2 (by rw [List.length_take]; omega) (ht x hm H1 (e.trans e1)) (he x hm H1 (e.trans e1)))
    (fun H' z => q Dl H' (fresh_back e1 z.1) (e1.trans z.2.1) (by
      have z3 := z.2.2
      rw [List.length_map, List.take_length] at z3
      exact z3))⟩
/-- over a new list -/
theorem el_lcNM {p : α → Bool} (h : EvL tl σ H (L.map f)) (hz : L.length ≤ 16000000) (hw : ∀ x, wipe ((wipe σ vs).set j (some x)) vs = wipe σ vs)
    (ht : ∀ x ∈ L, ∀ H1, Ex H H1 → EvT t ((wipe σ vs).set j (some (f x))) H1 (p x)) (he : ∀ x ∈ L, ∀ H1, Ex H H1 → p x = true → Ev te ((wipe σ vs).set j (some (f x))) H1 (g x)) :
    EvL (tLc (iList K tl) (gName j) t te vs) σ H ((L.filter p).map g) := fun H0 e Q q => h H0 e _ fun a H1 ha e1 hx => ⟨a, rfl, ⟨L.map f, sq_of hx⟩, fun Dl hD =>
  lc_list (xs := L.map f) (fun i H' => H1 Dl = none ∧ Ex H1 H' ∧ H' Dl = some (.lst (((L.take i).filter p).map g))) ⟨hD, Ex.new hD, upd_same⟩ (fun i H' _ z => sq_of (z.2.1 _ _ hx))
    (fun i y H' hi z => by
      obtain ⟨x, hx, rfl⟩ := map_at hi
      obtain ⟨e2, e3⟩ := split_at hx
      have hm : x ∈ L := List.mem_of_getElem? hx
      have hlt := (List.getElem?_eq_some_iff.mp hx).1
      refine ⟨hw _, ?_⟩
      rw [e3]
      exact cw_turnM z.1 z.2.1 z.2.2 (by rw [List.length_take]; omega) (ht x hm H1 (e.trans e1)) (he x hm H1 (e.trans e1)))
    (fun H' z => q Dl H' (fresh_back e1 z.1) (e1.trans z.2.1) (by
      have z3 := z.2.2
      rw [List.length_map, List.take_length] at z3
      exact z3))⟩
end

/-! ### slices of maps -/
theorem sIx_nat {n d k : Nat} : HT.sIx n d (some (k : Int)) = min k n := by
  simp only [HT.sIx]
  have h : ¬ ((k : Int) < 0) := by omega
  first
    | (rw [if_neg h]; omega)
    | (simp only [h, if_false]; omega)
    | simp [h]
    | omega
theorem cutV_nat (xs : List V) (lo hi : Nat) : cutV xs (some (lo : Int)) (some (hi : Int)) = (xs.drop lo).take (hi - lo) := by
  unfold cutV
  rw [sIx_nat, sIx_nat]
  by_cases h : lo ≤ xs.length
  · rw [Nat.min_eq_left h]
    by_cases h2 : hi ≤ xs.length
    · rw [Nat.min_eq_left h2]
    · rw [Nat.min_eq_right (by omega), List.take_of_length_le (by rw [List.length_drop]; omega), List.take_of_length_le (by rw [List.length_drop]; omega)]
  · rw [Nat.min_eq_right (show xs.length ≤ lo by omega), List.drop_eq_nil_of_le (Nat.le_refl _), List.drop_eq_nil_of_le (show xs.length ≤ lo by omega), List.take_nil, List.take_nil]
def iv (l : List Nat) : List V := l.map fun (n : Nat) => V.int (n : Int)
theorem iv_slice (l : List Nat) (lo hi : Nat) : cutV (iv l) (some (lo : Int)) (some (hi : Int)) = iv ((l.drop lo).take (hi - lo)) := by
  rw [cutV_nat]
  unfold iv
  rw [List.map_take, List.map_drop]
theorem iv_len (l : List Nat) : (iv l).length = l.length := by
  unfold iv
  rw [List.length_map]
theorem iv_append (l r : List Nat) : iv (l ++ r) = iv l ++ iv r := by
  unfold iv
  rw [List.map_append]
theorem iv_at {l : List Nat} {i n : Nat} (h : l[i]? = some n) : (iv l)[i]? = some (.int (n : Int)) := by
  unfold iv
  rw [List.getElem?_map, h]
  rfl
/-! ### what the fields hold -/
theorem lk_at {fs : List (Str × V)} {ks : List Str} {f : Str} {i : Nat} {v : V} (hk : fs.map (·.1) = ks) (hi : ks.findIdx? (fun g => decide (g = f)) = some i) (hv : (fs.map (·.2))[i]? = some v) : fs.lookup f = some v := by
  subst hk
  induction fs generalizing i with
  | nil => cases hi
  | cons p r ih =>
    obtain ⟨g, y⟩ := p
    rw [List.map_cons, List.findIdx?_cons] at hi
    by_cases e : g = f
    · subst e
      rw [if_pos (by simp)] at hi
      cases hi
      have e2 : (g == g) = true := beq_self_eq_true g
      simp only [List.lookup, e2]
      exact hv
    · rw [if_neg (by simpa using e)] at hi
      obtain ⟨i', h1, h2⟩ := Option.map_eq_some_iff.mp hi
      subst h2
      have e2 : (f == g) = false := by
        simp only [beq_eq_false_iff_ne, ne_eq]
        exact fun z => e z.symm
      simp only [List.lookup, e2]
      have hv' : (r.map (·.2))[i']? = some v := by
        rw [List.map_cons, List.getElem?_cons_succ] at hv
        exact hv
      first
        | exact ih h1 hv'
        | exact ih hv' h1
theorem lk_no {fs : List (Str × V)} {ks : List Str} {f : Str} (hk : fs.map (·.1) = ks) (hi : ks.findIdx? (fun g => decide (g = f)) = none) : fs.lookup f = none := by
  subst hk
  induction fs with
  | nil => rfl
  | cons p r ih =>
    obtain ⟨g, y⟩ := p
    rw [List.map_cons, List.findIdx?_cons] at hi
    by_cases e : g = f
    · subst e
      rw [if_pos (by simp)] at hi
      cases hi
    · rw [if_neg (by simpa using e)] at hi
      have h1 := Option.map_eq_none_iff.mp hi
      have e2 : (f == g) = false := by
        simp only [beq_eq_false_iff_ne, ne_eq]
        exact fun z => e z.symm
      simp only [List.lookup, e2]
      exact ih h1
theorem put_new {fs : List (Str × V)} {ks : List Str} {f : Str} {v : V} (hk : fs.map (·.1) = ks) (hi : ks.findIdx? (fun g => decide (g = f)) = none) : putF f v fs = fs ++ [(f, v)] := by
  subst hk
  induction fs with
  | nil => rfl
  | cons p r ih =>
    obtain ⟨g, y⟩ := p
    rw [List.map_cons, List.findIdx?_cons] at hi
    by_cases e : g = f
    · subst e
      rw [if_pos (by simp)] at hi
      cases hi
    · rw [if_neg (by simpa using e)] at hi
      have h1 := Option.map_eq_none_iff.mp hi
      show (if g = f then (g, v) :: r else (g, y) :: putF f v r) = _
      rw [if_neg e, ih h1]
      rfl
theorem put_at {fs : List (Str × V)} {ks : List Str} {f : Str} {i : Nat} {v : V} (hk : fs.map (·.1) = ks) (hi : ks.findIdx? (fun g => decide (g = f)) = some i) : putF f v fs = fs.set i (f, v) := by
  subst hk
  induction fs generalizing i with
  | nil => cases hi
  | cons p r ih =>
    obtain ⟨g, y⟩ := p
    rw [List.map_cons, List.findIdx?_cons] at hi
    by_cases e : g = f
    · subst e
      rw [if_pos (by simp)] at hi
      cases hi
      show (if g = g then (g, v) :: r else (g, y) :: putF g v r) = _
      rw [if_pos rfl]
      rfl
    · rw [if_neg (by simpa using e)] at hi
      obtain ⟨i', h1, h2⟩ := Option.map_eq_some_iff.mp hi
      subst h2
      show (if g = f then (g, v) :: r else (g, y) :: putF f v r) = _
      rw [if_neg e, ih h1]
      rfl
end Lk

set_option Elab.async false
set_option linter.all false
set_option maxRecDepth 100000
set_option maxHeartbeats 4000000
/-! # The text by places, its scopes; what the top leaves (printed by gen1.py) -/
namespace PySem
namespace LowX
open PySem.W PySem.Calls PyProof.Rows PySem.HandSPX
/-! ### the text of __init__ -/
def iA (p1 p2 : Pos) : Arguments := { posonlyargs := [], args := [{ arg := "self", annotation := none, pos := p1 }, { arg := "code", annotation := none, pos := p2 }], vararg := none, kwonlyargs := [], kw_defaults := [], kwarg := none, defaults := [] }
def iB (q1 q2 q3 q4 : Pos) : List Stmt := [.Assign [.Attribute (.Name "self" q1) "code" q2] (.Name "code" q3) q4]
def iS : Scope := { kind := .function, names := [(PySem.Str.ofString "self", .local), (PySem.Str.ofString "code", .local)], isGenerator := false, isCoroutine := false, more := [] }
/-- what the written part says of Low, at C, and of its __init__, at fI -/
structure LowTxt (K : Frag) (mg : Str → Option Value) (C fI : Addr) : Prop where
  gC : mg "Broken" = some (.ref C)
  cls : ∃ nm q N bs bm sn sub ab col dd k0 k1 k2 k3 k5, K.lookup C = some (excClassObj nm q C N bs bm true sn sub ab col dd k0 k1 k2 k3 k5 "ValueError.__new__") ∧ refsVE bm = true
  sa : findIn K (.ref C) "__setattr__" = some (some (.builtin "object.__setattr__"))
  ga : findIn K (.ref C) "__getattribute__" = some (some (.builtin "BaseException.__getattribute__"))
  gg : findIn K (.ref C) "__getattr__" = some none
  noN : findIn K (.ref C) "code" = some none
  iC : findIn K (.ref C) "__init__" = some (some (.ref fI))
  tC : typeIn K (.ref fI) = some (.type "function")
  kC : keepIn K (.ref C) = true
  exC : subIn K (.ref C) (.type "BaseException") = some true
  tyC : typeIn K (.ref C) = some (.type "type")
  hdC : hasDictIn K C = true
  te : exmOne K (.ref C) (.ref C) = some true
  fn : ∃ (oc : Value) (od : Option Addr) (doc pm : Value) (an : Option Addr) (cdv ct : Value) (osl : Array (Option Value)) (p1 p2 q1 q2 q3 q4 : Pos),
    K.lookup fI = some ⟨oc, od, .func (fnOf "__init__" "Broken.__init__" (iA p1 p2) (iB q1 q2 q3 q4) iS .none .none doc pm an cdv ct), osl⟩ ∧ codeIn K cdv "Broken.__init__" = true
theorem one_size (v : Value) : [v].length ≤ sizeLine := by
  rw [sizeLine_eq]
  exact (by decide : 1 ≤ 16777216)
theorem kept_but {K : Frag} {h h' : Heap} {x : Addr} (X : K.In h) (hx : K.lookup x = none) (k : ∀ b o, b ≠ x → h.get? b = some o → h'.get? b = some o) : K.In h' := fun a o e =>
  k a o (fun z => by rw [z, hx] at e; cases e) (X a o e)
theorem ldC {M : Model} {s : Shared} {name : Str} {scope : Scope} {L a : Addr} {cd : Value} {m : Str → Option Value} {x : Str} {pos : Pos} {v : Value} {Q : Value → Shared → Prop} {A : Around} {E : Value → Shared → Prop} (hn : s.heap.Ns L m) (hv : m x = some v) (h : Q v s)
    (hk : scope.kind = .function := by rfl) (hl : (envOfC name scope L a cd).kindOf x = some .local := by rfl) (hd : (x == ("__debug__" : Str)) = false := by decide) :
    wpAny M A (eval (.Name x pos) (envOfC name scope L a cd)) Q E s := wpAny_Name (wpAny_loadName_local hk hl hn hv h) hd
/-- what __init__ leaves of a fresh exception at x -/
structure InitEnd (h h' : Heap) (x C dx t1 : Addr) (v : Value) : Prop where
  keep : ∀ b o, b ≠ x → h.get? b = some o → h'.get? b = some o
  obj : h'.get? x = some { cls := .ref C, dict := some dx, data := .fields #[.ref t1, .none, .none, .none, .bool false, .none] }
  dbig : h.objs.size ≤ dx
  dne : dx ≠ x
  ns : h'.Ns1 dx (fun y => if y = "code" then some v else none)
/-- a made Low -/
structure OwnMade (h h' : Heap) (e C d : Addr) (v : Value) : Prop where
  keep : ∀ b o, h.get? b = some o → h'.get? b = some o
  new : h.objs.size ≤ e
  obj : ∃ oe vs, h'.get? e = some oe ∧ oe.cls = .ref C ∧ oe.dict = some d ∧ oe.data = .fields vs ∧ vs[1]? = some .none
  dbig : h.objs.size ≤ d
  dne : d ≠ e
  ns : h'.Ns1 d (fun y => if y = "code" then some v else none)
section
variable {prog : Program} {w : World} {A : Around} {E : Value → Shared → Prop} {R : Result → Shared → Prop} {s : Shared} {K : Frag} {mg : Str → Option Value} {C fI : Addr}
theorem low_init (T : LowTxt K mg C fI) {x t0 : Addr} {v : Value} (X : K.In s.heap) (hlim : s.heap.NoLimit) (hx : s.heap.get? x = some (excO C t0)) (hnx : K.lookup x = none) (hroom : A.depth < recursionLimit)
    (hq : ∀ h' tk dx, InitEnd s.heap h' x C dx t0 v → R (.ok (.ret .none)) { s with heap := h', toks := tk }) :
    codeAny (model prog w) A (.call (.ref fI) ⟨[.ref x, v], []⟩) R s := by
  obtain ⟨oc, od, doc, pm, an, cdv, ct, osl, p1, p2, q1, q2, q3, q4, ho, hcd⟩ := T.fn
  obtain ⟨nm, q, N, bs, bm, sn, sub, ab, col, dd, k0, k1, k2, k3, k5, hC, hbm⟩ := T.cls
  have hcl : clsIn K C = some { name := nm, bases := bs, mro := .ref C :: bm, ns := N, qualname := q, hasDict := true, slotNames := sn, subclasses := sub, abstract := ab, collection := col, hasDel := false } := by unfold clsIn; rw [hC] <;> rfl
  refine Att.call_fn (binds := [("self", .ref x), ("code", v)]) X hlim ho hcd hroom (BindsTo.of_eq (by first | rfl | with_unfolding_all rfl)) (by first | rfl | decide | with_unfolding_all rfl) (fun s₁ IC => ?_) rfl rfl rfl
  obtain ⟨h₁, tk₁, rfl⟩ := IC.toInCall.same
  have k : ∀ b o, s.heap.get? b = some o → h₁.get? b = some o := IC.toInCall.keep
  have hn := IC.toInCall.ns
  have hxL : s.heap.objs.size ≠ x := Nat.ne_of_gt (Heap.lt_size hx)
  have X₁ : K.In h₁ := X.keeps k
  have hx₁ := k _ _ hx
  -- self.by = by
  show wpAny _ _ (execs _ _) _ _ _
  refine wpAny_execs_cons (plainObj_wpAny_Assign_Attribute ?_)
  refine ldC (v := v) hn (by first | rfl | with_unfolding_all rfl | kernel_rfl) (ldC (v := .ref x) hn (by first | rfl | with_unfolding_all rfl | kernel_rfl) ?_)
  refine set_plain X₁ (ox := excO C t0) (od := none) ⟨hx₁, rfl, rfl, trivial⟩ T.sa ?_
  refine exc_osa X₁ hx₁ hcl (show refsVE (.ref C :: bm) = true from hbm) rfl T.noN (fun h₃ tk₃ dx k₃ dn dne hx₃ hn₃ => ?_)
  show wpAny _ _ (execs _ _) _ _ _
  have z : s.heap.objs.size < h₁.objs.size := hn.lt
  exact wpAny_execs_nil (hq h₃ tk₃ dx ⟨fun b o hb e => k₃ b o hb (k b o e), hx₃, Nat.le_of_lt (Nat.lt_of_lt_of_le z dn), dne, hn₃⟩)
theorem low_made (T : LowTxt K mg C fI) {v : Value} (X : K.In s.heap) (hlim : s.heap.NoLimit) (hroom : A.depth + 1 < recursionLimit)
    (hq : ∀ h' tk e d, OwnMade s.heap h' e C d v → R (.ok (.ret (.ref e))) { s with heap := h', toks := tk }) :
    codeAny (model prog w) A (.call (.ref C) ⟨[v], []⟩) R s := by
  obtain ⟨nm, q, N, bs, bm, sn, sub, ab, col, dd, k0, k1, k2, k3, k5, hC, hbm⟩ := T.cls
  obtain ⟨hp, g, dr, tk, os⟩ := s
  have k : ∀ b o, hp.get? b = some o → ((hp.push (kdv_tup [v])).push (excO C hp.objs.size)).get? b = some o := fun b o e => Heap.get?_push_of_some _ (Heap.get?_push_of_some _ e)
  have hget : ((hp.push (kdv_tup [v])).push (excO C hp.objs.size)).get? (hp.objs.size + 1) = some (excO C hp.objs.size) := by heap_get
  have hnx : K.lookup (hp.objs.size + 1) = none := by
    cases e : K.lookup (hp.objs.size + 1) with
    | none => rfl
    | some o =>
      have z : hp.get? (hp.objs.size + 1) = some o := X _ _ e
      exact absurd (Nat.lt_of_succ_lt (Heap.lt_size z)) (Nat.lt_irrefl _)
  refine call_own F.excBase_ValueError (fun X => refsVE_contains X bm hbm) (X _ _ hC) (looks_findIn X T.iC) (fun self => bind_fn X self T.tC) (one_size v) ?_
  refine low_init (s := ⟨(hp.push (kdv_tup [v])).push (excO C hp.objs.size), g, dr, tk, os⟩) T (X.keeps k) (hlim.keeps k) hget hnx ?_ fun h' tk' dx ⟨k', hx, dn, dne, hns⟩ => ?_
  · show A.depth + 1 < recursionLimit
    exact hroom
  · have old : ∀ b o, hp.get? b = some o → h'.get? b = some o := fun b o e => k' b o (Nat.ne_of_lt (Nat.lt_succ_of_lt (Heap.lt_size e))) (k b o e)
    have z : hp.objs.size + 1 + 1 ≤ dx := by
      first
        | (simpa only [Heap.size_push] using dn)
        | exact dn
        | (have q := dn; rw [Heap.size_push, Heap.size_push] at q; exact q)
    exact ⟨rfl, hq h' tk' (hp.objs.size + 1) dx ⟨old, Nat.le_succ _, ⟨_, _, hx, rfl, rfl, rfl, rfl⟩, Nat.le_trans (Nat.le_trans (Nat.le_succ _) (Nat.le_succ _)) z, dne, hns⟩⟩
end
end LowX
end PySem
namespace L2
open PySem PySem.Spec PyProof.Rows
theorem relO_low {v : V} {v' : Value} (r : RelV v v') (f : Str) : RelO (List.lookup f [(("code" : Str), v)]) (if f = "code" then some v' else none) := by
  by_cases hw : f = "code"
  · subst hw
    rw [if_pos rfl]
    have q : List.lookup ("code" : Str) [(("code" : Str), v)] = some v := by simp [List.lookup]
    rw [q]
    exact r
  · rw [if_neg hw]
    have qw : (f == ("code" : Str)) = false := by simpa using hw
    have q2 : List.lookup f [(("code" : Str), v)] = none := by simp [List.lookup, qw]
    rw [q2]
    trivial
section
variable {X : Cx} {C fI : Addr}
/-- Low(e) -/
def tMkLow (C : Addr) (ta : TA) : St → Hp → XK → Prop := fun σ H Q => ta σ H fun vs H1 => ∃ v, vs = [v] ∧ ∀ d, H1 d = none → Q (.ref C) (some d) (upd H1 d (.xd [(("code" : Str), v)]))
theorem pmk_low {a : Expr} {ta : TA} {p pos : Pos} {k : Nat} (T : PySem.LowX.LowTxt X.K X.mg C fI) (hr : Room k X.A) (ha : PA X [a] ta) (hg : Gl X "Broken" := by rfl)
    (he : starEach (a :: []) X.env = (false, eval a X.env) :: starEach [] X.env := by rfl) (hpl : (backTo pos (starEach [] X.env)).any (·.1) = false := by rfl) :
    PMk X (.Call (.Name "Broken" p) [a] [] pos) (tMkLow C ta) := by
  intro pins s σ H Q I h
  refine wpAny_Call_Name_kw (ld_glob I hg T.gC ?_)
  refine PySem.W.callWith_K (h₀ := X.base) I.ok.mod.kin T.kC (thn (ha.run pos pins s σ H _ I h) fun us s1 hh => ?_) he hpl
  obtain ⟨vs, H1, I1, r1, v, ev, q1⟩ := hh
  subst ev
  refine ⟨I1.kIn, ?_⟩
  cases r1 with
  | cons rv rn =>
    rename_i v' us'
    cases rn
    show wpAny _ _ (call (.ref C) [v']) _ _ _
    have hlim := I1.nolimit
    obtain ⟨hp, g, dr, tk, os⟩ := s1
    refine wpAny_call (PySem.LowX.low_made T I1.kIn hlim (by have := hr.dp; omega) fun h' tk' e d M => ?_)
    show MkP X pins σ Q (.ref e) ⟨h', g, dr, tk', os⟩
    obtain ⟨oe, fv, hoe, hc, hd, hdat, h1⟩ := M.obj
    have hns := M.ns
    obtain ⟨G', g1, g2⟩ := restrict h' fun b => decide (b ≠ e)
    have gk : ∀ b, b ≠ e → G'.get? b = h'.get? b := fun b hb => g1 b (decide_eq_true hb)
    have ge : G'.get? e = none := g2 e (by simp)
    have old : ∀ b o, hp.get? b = some o → G'.get? b = some o := fun b o q => (gk b (Nat.ne_of_lt (Nat.lt_of_lt_of_le (Heap.lt_size q) M.new))).trans (M.keep b o q)
    have ob : ObjOk X.prog X.w (upd H1 d (.xd [(("code" : Str), v)])) G' d (.xd [(("code" : Str), v)]) :=
      ⟨_, hns.at (fun o q => (gk d M.dne).trans q), fun f => relO_low rv f⟩
    have J : Inv X pins σ (upd H1 d (.xd [(("code" : Str), v)])) ⟨G', g, dr, tk', os⟩ := I1.laid (t' := tk') old M.dbig ob
    refine ⟨e, oe, fv, ⟨G', g, dr, tk', os⟩, _, .ref C, some d, rfl, J, fun b o q => ?_, ge, hoe, ⟨hc, hd⟩, hdat, h1, ?_, rfl, I1.bare, raises_own T.exC T.tyC, q1 d (I1.hok.fresh M.dbig)⟩
    · by_cases hb : b = e
      · have q' : G'.get? b = some o := q
        rw [hb, ge] at q'; cases q'
      · exact (gk b hb).symm.trans q
    · rw [upd_ne (Ne.symm M.dne)]
      exact I1.hok.fresh M.new
/-- raise Low(e) -/
def tRaiseLow (C : Addr) (W : WX) (ta : TA) : TS := fun _ σ H => tMkLow C ta σ H fun cls d H' => W cls d σ H'
theorem ps_raiseLow {a : Expr} {ta : TA} {W : WX} {p pos pos2 : Pos} {k : Nat} (hc : X.calm = true) (T : PySem.LowX.LowTxt X.K X.mg C fI) (hr : Room k X.A) (tk : Takes X W) (ha : PA X [a] ta) (hg : Gl X "Broken" := by rfl)
    (he : starEach (a :: []) X.env = (false, eval a X.env) :: starEach [] X.env := by rfl) (hpl : (backTo pos (starEach [] X.env)).any (·.1) = false := by rfl) :
    PS X (.Raise (some (.Call (.Name "Broken" p) [a] [] pos)) none pos2) (tRaiseLow C W ta) := ps_raise hc tk (pmk_low T hr ha hg he hpl)
/-- low.by, low the exception that the suite holds (at a; its class cls, its dict d) -/
def tByLow (C : Addr) (a : Addr) (cls : Value) (d : Option Addr) (te : TE) : TE := fun σ H Q => te σ H fun x H1 => x = .ref a ∧ cls = .ref C ∧ ∃ (dd : Addr) (v : V), d = some dd ∧ H1 dd = some (.xd [(("code" : Str), v)]) ∧ Q v H1
theorem pe_byLow {a : Addr} {oe : Obj} {cls : Value} {d : Option Addr} {pn : List (Addr × Obj)} {e : Expr} {te : TE} {pos : Pos} (T : PySem.LowX.LowTxt X.K X.mg C fI) (hz : Zc cls d oe) (hf : ∃ vs, oe.data = .fields vs) (he : PE (X.suite a ((a, oe) :: pn)) e te)
    (hb : attributeBase e "code" X.env (eval e X.env) = eval e X.env := by rfl) :
    PE (X.suite a ((a, oe) :: pn)) (.Attribute e "code" pos) (tByLow C a cls d te) := by
  refine ⟨fun pins s σ H Q I h => ?_⟩
  refine attr_of hb (thn (he.run pins s σ H _ I h) fun u s1 hh => ?_)
  obtain ⟨x, H1, I1, rx, ex, ec, dd, v, ed, ea, q⟩ := hh
  subst ex
  obtain rfl : u = Value.ref a := rx
  subst ec
  subst ed
  obtain ⟨ha, _⟩ := I1.pin (a, oe) (List.mem_append_left _ List.mem_cons_self)
  obtain ⟨vs, hd⟩ := hf
  have hx : ObjOk X.prog X.w H1 s1.heap dd (.xd [(("code" : Str), v)]) := I1.hok dd _ ea
  obtain ⟨mA, hns, hr⟩ := hx
  obtain ⟨od, ho, hl⟩ := lookIn_ns hns
  have l : List.lookup ("code" : Str) [(("code" : Str), v)] = some v := by simp [List.lookup]
  obtain ⟨u, hu, ru⟩ := RelO.some_of (v := v) (o := mA "code") (by rw [← l]; exact hr "code")
  have J : PySem.W.InstAt s1.heap a oe C (some od) := ⟨ha, hz.1, by unfold PySem.W.notCls; rw [hd] <;> rfl, by rw [hz.2]; exact ho⟩
  exact HandSPX.exc_get I1.kIn J T.ga T.gg T.exC (PySem.W.findObj_own T.hdC T.noN rfl (by rw [hl, hu])) (handed_of ru) ⟨v, H1, I1.tok _, ru, q⟩
end
end L2


namespace Lk
open PySem PySem.Spec PyProof.Rows L2 Evl He
abbrev pw : Program := PySem.Challenge.pw_objectlinker_s01_link
def top (i : Nat) : Stmt := pw.main.body.getD i (.Pass ⟨0, 0, 0, 0⟩)
abbrev s_Broken_init : Stmt := inClass (top 13) 0
abbrev s_check : Stmt := top 14
abbrev s_number_at : Stmt := top 15
abbrev s_is_alignment : Stmt := top 16
abbrev s_Section_init : Stmt := inClass (top 17) 0
abbrev s_Section_has : Stmt := inClass (top 17) 1
abbrev s_Section_is_loaded : Stmt := inClass (top 17) 2
abbrev s_Section_class_of : Stmt := inClass (top 17) 3
abbrev s_Symbol_init : Stmt := inClass (top 18) 0
abbrev s_Symbol_is_definition : Stmt := inClass (top 18) 1
abbrev s_Relocation_init : Stmt := inClass (top 19) 0
abbrev s_Relocation_width : Stmt := inClass (top 19) 1
abbrev s_Told_init : Stmt := inClass (top 20) 0
abbrev s_sections_of : Stmt := top 21
abbrev s_check_sections : Stmt := top 22
abbrev s_bytes_of : Stmt := top 23
abbrev s_name_at : Stmt := top 24
abbrev s_check_symbol : Stmt := top 25
abbrev s_symbols_of : Stmt := top 26
abbrev s_relocations_of : Stmt := top 27
abbrev s_Name_init : Stmt := inClass (top 30) 0
abbrev s_Name_settle : Stmt := inClass (top 30) 1
abbrev s_Name_is_nothing : Stmt := inClass (top 30) 2
abbrev s_Name_whereabouts : Stmt := inClass (top 30) 3
abbrev s_address_of : Stmt := top 31
abbrev s_names_of : Stmt := top 32
abbrev s_raised : Stmt := top 35
abbrev s_Layout_init : Stmt := inClass (top 36) 0
abbrev s_Layout_put : Stmt := inClass (top 36) 1
abbrev s_Layout_settle : Stmt := inClass (top 36) 2
abbrev s_Layout_file_size : Stmt := inClass (top 36) 3
abbrev s_place_all : Stmt := top 37
abbrev s_images_of : Stmt := top 38
abbrev s_value_of : Stmt := top 40
abbrev s_target_of : Stmt := top 41
abbrev s_relocate : Stmt := top 42
abbrev s_stored : Stmt := top 45
abbrev s_header_of : Stmt := top 46
abbrev s_program_header : Stmt := top 47
abbrev s_filled : Stmt := top 48
abbrev s_file_of : Stmt := top 49
abbrev s_objects_of : Stmt := top 56
abbrev s_memory_of : Stmt := top 57
abbrev s_linked : Stmt := top 58
abbrev s_link : Stmt := top 59
theorem sc_Broken_init : FnScope ["self", "code"] ["self", "code"] (defScope s_Broken_init) := ⟨rfl, rfl, rfl, by decide +kernel, rfl, by decide +kernel, by decide +kernel⟩
theorem sc_check : FnScope ["is_right", "code"] ["is_right", "code"] (defScope s_check) := ⟨rfl, rfl, rfl, by decide +kernel, rfl, by decide +kernel, by decide +kernel⟩
theorem sc_number_at : FnScope ["row", "at", "many", "found", "place"] ["row", "at", "many"] (defScope s_number_at) := ⟨rfl, rfl, rfl, by decide +kernel, rfl, by decide +kernel, by decide +kernel⟩
theorem sc_is_alignment : FnScope ["number"] ["number"] (defScope s_is_alignment) := ⟨rfl, rfl, rfl, by decide +kernel, rfl, by decide +kernel, by decide +kernel⟩
theorem sc_Section_init : FnScope ["self", "row"] ["self", "row"] (defScope s_Section_init) := ⟨rfl, rfl, rfl, by decide +kernel, rfl, by decide +kernel, by decide +kernel⟩
theorem sc_Section_has : FnScope ["self", "flag"] ["self", "flag"] (defScope s_Section_has) := ⟨rfl, rfl, rfl, by decide +kernel, rfl, by decide +kernel, by decide +kernel⟩
theorem sc_Section_is_loaded : FnScope ["self"] ["self"] (defScope s_Section_is_loaded) := ⟨rfl, rfl, rfl, by decide +kernel, rfl, by decide +kernel, by decide +kernel⟩
theorem sc_Section_class_of : FnScope ["self"] ["self"] (defScope s_Section_class_of) := ⟨rfl, rfl, rfl, by decide +kernel, rfl, by decide +kernel, by decide +kernel⟩
theorem sc_Symbol_init : FnScope ["self", "row", "name"] ["self", "row", "name"] (defScope s_Symbol_init) := ⟨rfl, rfl, rfl, by decide +kernel, rfl, by decide +kernel, by decide +kernel⟩
theorem sc_Symbol_is_definition : FnScope ["self"] ["self"] (defScope s_Symbol_is_definition) := ⟨rfl, rfl, rfl, by decide +kernel, rfl, by decide +kernel, by decide +kernel⟩
theorem sc_Relocation_init : FnScope ["self", "row", "section", "addend"] ["self", "row", "section"] (defScope s_Relocation_init) := ⟨rfl, rfl, rfl, by decide +kernel, rfl, by decide +kernel, by decide +kernel⟩
theorem sc_Relocation_width : FnScope ["self"] ["self"] (defScope s_Relocation_width) := ⟨rfl, rfl, rfl, by decide +kernel, rfl, by decide +kernel, by decide +kernel⟩
theorem sc_Told_init : FnScope ["self", "row"] ["self", "row"] (defScope s_Told_init) := ⟨rfl, rfl, rfl, by decide +kernel, rfl, by decide +kernel, by decide +kernel⟩
theorem sc_sections_of : FnScope ["row", "many", "begin", "at"] ["row"] (defScope s_sections_of) := ⟨rfl, rfl, rfl, by decide +kernel, rfl, by decide +kernel, by decide +kernel⟩
theorem sc_check_sections : FnScope ["row", "sections", "one"] ["row", "sections"] (defScope s_check_sections) := ⟨rfl, rfl, rfl, by decide +kernel, rfl, by decide +kernel, by decide +kernel⟩
theorem sc_bytes_of : FnScope ["row", "section"] ["row", "section"] (defScope s_bytes_of) := ⟨rfl, rfl, rfl, by decide +kernel, rfl, by decide +kernel, by decide +kernel⟩
theorem sc_name_at : FnScope ["names", "at", "end"] ["names", "at"] (defScope s_name_at) := ⟨rfl, rfl, rfl, by decide +kernel, rfl, by decide +kernel, by decide +kernel⟩
theorem sc_check_symbol : FnScope ["one", "number", "sections"] ["one", "number", "sections"] (defScope s_check_symbol) := ⟨rfl, rfl, rfl, by decide +kernel, rfl, by decide +kernel, by decide +kernel⟩
theorem sc_symbols_of : FnScope ["row", "sections", "one", "tables", "table", "names", "entries", "found", "number", "entry"] ["row", "sections"] (defScope s_symbols_of) := ⟨rfl, rfl, rfl, by decide +kernel, rfl, by decide +kernel, by decide +kernel⟩
theorem sc_relocations_of : FnScope ["row", "sections", "symbols", "found", "one", "target", "entries", "number", "entry"] ["row", "sections", "symbols"] (defScope s_relocations_of) := ⟨rfl, rfl, rfl, by decide +kernel, rfl, by decide +kernel, by decide +kernel⟩
theorem sc_Name_init : FnScope ["self"] ["self"] (defScope s_Name_init) := ⟨rfl, rfl, rfl, by decide +kernel, rfl, by decide +kernel, by decide +kernel⟩
theorem sc_Name_settle : FnScope ["self", "definitions", "strong", "commons", "pair", "one"] ["self"] (defScope s_Name_settle) := ⟨rfl, rfl, rfl, by decide +kernel, rfl, by decide +kernel, by decide +kernel⟩
theorem sc_Name_is_nothing : FnScope ["self"] ["self"] (defScope s_Name_is_nothing) := ⟨rfl, rfl, rfl, by decide +kernel, rfl, by decide +kernel, by decide +kernel⟩
theorem sc_Name_whereabouts : FnScope ["self"] ["self"] (defScope s_Name_whereabouts) := ⟨rfl, rfl, rfl, by decide +kernel, rfl, by decide +kernel, by decide +kernel⟩
theorem sc_address_of : FnScope ["symbol", "sections", "section"] ["symbol", "sections"] (defScope s_address_of) := ⟨rfl, rfl, rfl, by decide +kernel, rfl, by decide +kernel, by decide +kernel⟩
theorem sc_names_of : FnScope ["objects", "found", "one", "symbol", "name"] ["objects"] (defScope s_names_of) := ⟨rfl, rfl, rfl, by decide +kernel, rfl, by decide +kernel, by decide +kernel⟩
theorem sc_raised : FnScope ["number", "alignment"] ["number", "alignment"] (defScope s_raised) := ⟨rfl, rfl, rfl, by decide +kernel, rfl, by decide +kernel, by decide +kernel⟩
theorem sc_Layout_init : FnScope ["self", "address"] ["self", "address"] (defScope s_Layout_init) := ⟨rfl, rfl, rfl, by decide +kernel, rfl, by decide +kernel, by decide +kernel⟩
theorem sc_Layout_put : FnScope ["self", "number", "size", "alignment", "found"] ["self", "number", "size", "alignment"] (defScope s_Layout_put) := ⟨rfl, rfl, rfl, by decide +kernel, rfl, by decide +kernel, by decide +kernel⟩
theorem sc_Layout_settle : FnScope ["self", "number"] ["self"] (defScope s_Layout_settle) := ⟨rfl, rfl, rfl, by decide +kernel, rfl, by decide +kernel, by decide +kernel⟩
theorem sc_Layout_file_size : FnScope ["self", "number"] ["self"] (defScope s_Layout_file_size) := ⟨rfl, rfl, rfl, by decide +kernel, rfl, by decide +kernel, by decide +kernel⟩
theorem sc_place_all : FnScope ["address", "objects", "names", "layout", "loaded", "one", "section", "name", "commons"] ["address", "objects", "names"] (defScope s_place_all) := ⟨rfl, rfl, rfl, by decide +kernel, rfl, by decide +kernel, by decide +kernel⟩
theorem sc_images_of : FnScope ["layout", "objects", "found", "one", "section", "image", "number"] ["layout", "objects"] (defScope s_images_of) := ⟨rfl, rfl, rfl, by decide +kernel, rfl, by decide +kernel, by decide +kernel⟩
theorem sc_value_of : FnScope ["kind", "sum_told", "place", "value"] ["kind", "sum_told", "place"] (defScope s_value_of) := ⟨rfl, rfl, rfl, by decide +kernel, rfl, by decide +kernel, by decide +kernel⟩
theorem sc_target_of : FnScope ["one", "relocation", "names", "symbol", "found"] ["one", "relocation", "names"] (defScope s_target_of) := ⟨rfl, rfl, rfl, by decide +kernel, rfl, by decide +kernel, by decide +kernel⟩
theorem sc_relocate : FnScope ["objects", "names", "images", "one", "relocation", "target", "section", "place", "value", "image", "at", "byte"] ["objects", "names", "images"] (defScope s_relocate) := ⟨rfl, rfl, rfl, by decide +kernel, rfl, by decide +kernel, by decide +kernel⟩
theorem sc_stored : FnScope ["number", "many", "at"] ["number", "many"] (defScope s_stored) := ⟨rfl, rfl, rfl, by decide +kernel, rfl, by decide +kernel, by decide +kernel⟩
theorem sc_header_of : FnScope ["start", "many", "found"] ["start", "many"] (defScope s_header_of) := ⟨rfl, rfl, rfl, by decide +kernel, rfl, by decide +kernel, by decide +kernel⟩
theorem sc_program_header : FnScope ["layout", "number", "begin", "size", "place", "found"] ["layout", "number"] (defScope s_program_header) := ⟨rfl, rfl, rfl, by decide +kernel, rfl, by decide +kernel, by decide +kernel⟩
theorem sc_filled : FnScope ["row"] ["row"] (defScope s_filled) := ⟨rfl, rfl, rfl, by decide +kernel, rfl, by decide +kernel, by decide +kernel⟩
theorem sc_file_of : FnScope ["layout", "images", "start", "number", "numbers", "found", "image"] ["layout", "images", "start"] (defScope s_file_of) := ⟨rfl, rfl, rfl, by decide +kernel, rfl, by decide +kernel, by decide +kernel⟩
theorem sc_objects_of : FnScope ["sizes", "row", "found", "at", "size"] ["sizes", "row"] (defScope s_objects_of) := ⟨rfl, rfl, rfl, by decide +kernel, rfl, by decide +kernel, by decide +kernel⟩
theorem sc_memory_of : FnScope ["objects", "found", "one", "commons", "symbol", "section"] ["objects"] (defScope s_memory_of) := ⟨rfl, rfl, rfl, by decide +kernel, rfl, by decide +kernel, by decide +kernel⟩
theorem sc_linked : FnScope ["address", "sizes", "row", "most", "objects", "names", "name", "layout", "start", "images"] ["address", "sizes", "row", "most"] (defScope s_linked) := ⟨rfl, rfl, rfl, by decide +kernel, rfl, by decide +kernel, by decide +kernel⟩
theorem sc_link : FnScope ["address", "max_size", "sizes", "objects", "found", "e"] ["address", "max_size", "sizes", "objects"] (defScope s_link) := ⟨rfl, rfl, rfl, by decide +kernel, rfl, by decide +kernel, by decide +kernel⟩
abbrev C_Broken (K : PySem.W.Frag) : Addr := ga K "Broken"
abbrev C_Section (K : PySem.W.Frag) : Addr := ga K "Section"
abbrev C_Symbol (K : PySem.W.Frag) : Addr := ga K "Symbol"
abbrev C_Relocation (K : PySem.W.Frag) : Addr := ga K "Relocation"
abbrev C_Told (K : PySem.W.Frag) : Addr := ga K "Told"
abbrev C_Name (K : PySem.W.Frag) : Addr := ga K "Name"
abbrev C_Layout (K : PySem.W.Frag) : Addr := ga K "Layout"
abbrev A_MAGIC (K : PySem.W.Frag) : Addr := ga K "MAGIC"
abbrev A_KINDS (K : PySem.W.Frag) : Addr := ga K "KINDS"
abbrev A_RIGHTS (K : PySem.W.Frag) : Addr := ga K "RIGHTS"
abbrev A_START (K : PySem.W.Frag) : Addr := ga K "START"
/-- what the top has left -/
structure Tx (K : PySem.W.Frag) (mg : Str → Option Value) : Prop where
  v_DATA : ∃ t, mg "DATA" = some (.int 1 t)
  v_SYMBOLS : ∃ t, mg "SYMBOLS" = some (.int 2 t)
  v_NAMES : ∃ t, mg "NAMES" = some (.int 3 t)
  v_RELOCATIONS : ∃ t, mg "RELOCATIONS" = some (.int 4 t)
  v_ZEROS : ∃ t, mg "ZEROS" = some (.int 8 t)
  v_ABSOLUTE : ∃ t, mg "ABSOLUTE" = some (.int 65521 t)
  v_COMMON : ∃ t, mg "COMMON" = some (.int 65522 t)
  v_LOCAL : ∃ t, mg "LOCAL" = some (.int 0 t)
  v_GLOBAL : ∃ t, mg "GLOBAL" = some (.int 1 t)
  v_MOST_ALIGNMENT : ∃ t, mg "MOST_ALIGNMENT" = some (.int 4096 t)
  v_CUT : ∃ t, mg "CUT" = some (.int 18446744073709551616 t)
  v_PAGE : ∃ t, mg "PAGE" = some (.int 4096 t)
  v_MOST_OBJECTS : ∃ t, mg "MOST_OBJECTS" = some (.int 64 t)
  v_MOST_ADDRESS : ∃ t, mg "MOST_ADDRESS" = some (.int 70368744177664 t)
  v_MOST_SIZE : ∃ t, mg "MOST_SIZE" = some (.int 16777216 t)
  v_MOST_MEMORY : ∃ t, mg "MOST_MEMORY" = some (.int 4194304 t)
  g_MAGIC : mg "MAGIC" = some (.ref (A_MAGIC K))
  g_KINDS : mg "KINDS" = some (.ref (A_KINDS K))
  g_RIGHTS : mg "RIGHTS" = some (.ref (A_RIGHTS K))
  g_START : mg "START" = some (.ref (A_START K))
  t_MAGIC : ∀ H : Hp, SqL K H (A_MAGIC K) (iv [127, 69, 76, 70, 2, 1, 1])
  t_KINDS : ∀ H : Hp, SqT K H (A_KINDS K) (iv [0, 1, 2, 4, 10, 11, 24])
  t_RIGHTS : ∀ H : Hp, SqT K H (A_RIGHTS K) (iv [5, 4, 6, 6])
  t_START : ∀ H : Hp, SqT K H (A_START K) (iv [95, 115, 116, 97, 114, 116])
  b_range : mg "range" = none
  b_len : mg "len" = none
  b_tuple : mg "tuple" = none
  b_max : mg "max" = none
  b_any : mg "any" = none
  b_sum : mg "sum" = none
  b_list : mg "list" = none
  c_Section : Cls K (C_Section K)
  k_Section : Mk K (C_Section K) (ma K (C_Section K) "__init__")
  g_Section : mg "Section" = some (.ref (C_Section K))
  n_Section_sort_of : NoAttr K (C_Section K) "sort_of"
  n_Section_flags : NoAttr K (C_Section K) "flags"
  n_Section_begin : NoAttr K (C_Section K) "begin"
  n_Section_size : NoAttr K (C_Section K) "size"
  n_Section_linked : NoAttr K (C_Section K) "linked"
  n_Section_info : NoAttr K (C_Section K) "info"
  n_Section_alignment : NoAttr K (C_Section K) "alignment"
  n_Section_entry : NoAttr K (C_Section K) "entry"
  n_Section_place : NoAttr K (C_Section K) "place"
  n_Section_address : NoAttr K (C_Section K) "address"
  m_Section_has : Meth K (C_Section K) "has" (ma K (C_Section K) "has")
  m_Section_is_loaded : Meth K (C_Section K) "is_loaded" (ma K (C_Section K) "is_loaded")
  m_Section_class_of : Meth K (C_Section K) "class_of" (ma K (C_Section K) "class_of")
  c_Symbol : Cls K (C_Symbol K)
  k_Symbol : Mk K (C_Symbol K) (ma K (C_Symbol K) "__init__")
  g_Symbol : mg "Symbol" = some (.ref (C_Symbol K))
  n_Symbol_name : NoAttr K (C_Symbol K) "name"
  n_Symbol_binding : NoAttr K (C_Symbol K) "binding"
  n_Symbol_section : NoAttr K (C_Symbol K) "section"
  n_Symbol_value : NoAttr K (C_Symbol K) "value"
  n_Symbol_size : NoAttr K (C_Symbol K) "size"
  m_Symbol_is_definition : Meth K (C_Symbol K) "is_definition" (ma K (C_Symbol K) "is_definition")
  c_Relocation : Cls K (C_Relocation K)
  k_Relocation : Mk K (C_Relocation K) (ma K (C_Relocation K) "__init__")
  g_Relocation : mg "Relocation" = some (.ref (C_Relocation K))
  n_Relocation_section : NoAttr K (C_Relocation K) "section"
  n_Relocation_offset : NoAttr K (C_Relocation K) "offset"
  n_Relocation_kind : NoAttr K (C_Relocation K) "kind"
  n_Relocation_symbol : NoAttr K (C_Relocation K) "symbol"
  n_Relocation_addend : NoAttr K (C_Relocation K) "addend"
  m_Relocation_width : Meth K (C_Relocation K) "width" (ma K (C_Relocation K) "width")
  c_Told : Cls K (C_Told K)
  k_Told : Mk K (C_Told K) (ma K (C_Told K) "__init__")
  g_Told : mg "Told" = some (.ref (C_Told K))
  n_Told_row : NoAttr K (C_Told K) "row"
  n_Told_sections : NoAttr K (C_Told K) "sections"
  n_Told_symbols : NoAttr K (C_Told K) "symbols"
  n_Told_relocations : NoAttr K (C_Told K) "relocations"
  c_Name : Cls K (C_Name K)
  k_Name : Mk K (C_Name K) (ma K (C_Name K) "__init__")
  g_Name : mg "Name" = some (.ref (C_Name K))
  n_Name_symbols : NoAttr K (C_Name K) "symbols"
  n_Name_definition : NoAttr K (C_Name K) "definition"
  n_Name_is_common : NoAttr K (C_Name K) "is_common"
  n_Name_size : NoAttr K (C_Name K) "size"
  n_Name_alignment : NoAttr K (C_Name K) "alignment"
  n_Name_address : NoAttr K (C_Name K) "address"
  m_Name_settle : Meth K (C_Name K) "settle" (ma K (C_Name K) "settle")
  m_Name_is_nothing : Meth K (C_Name K) "is_nothing" (ma K (C_Name K) "is_nothing")
  m_Name_whereabouts : Meth K (C_Name K) "whereabouts" (ma K (C_Name K) "whereabouts")
  c_Layout : Cls K (C_Layout K)
  k_Layout : Mk K (C_Layout K) (ma K (C_Layout K) "__init__")
  g_Layout : mg "Layout" = some (.ref (C_Layout K))
  n_Layout_address : NoAttr K (C_Layout K) "address"
  n_Layout_sizes : NoAttr K (C_Layout K) "sizes"
  n_Layout_begins : NoAttr K (C_Layout K) "begins"
  m_Layout_put : Meth K (C_Layout K) "put" (ma K (C_Layout K) "put")
  m_Layout_settle : Meth K (C_Layout K) "settle" (ma K (C_Layout K) "settle")
  m_Layout_file_size : Meth K (C_Layout K) "file_size" (ma K (C_Layout K) "file_size")
  d_check : ∃ fd, FunD K "check" "check" (defArgs s_check) (defBody s_check) (defScope s_check) [] [] (ga K "check") fd
  g_check : mg "check" = some (.ref (ga K "check"))
  d_number_at : ∃ fd, FunD K "number_at" "number_at" (defArgs s_number_at) (defBody s_number_at) (defScope s_number_at) [] [] (ga K "number_at") fd
  g_number_at : mg "number_at" = some (.ref (ga K "number_at"))
  d_is_alignment : ∃ fd, FunD K "is_alignment" "is_alignment" (defArgs s_is_alignment) (defBody s_is_alignment) (defScope s_is_alignment) [] [] (ga K "is_alignment") fd
  g_is_alignment : mg "is_alignment" = some (.ref (ga K "is_alignment"))
  d_Section_init : ∃ fd, FunD K "__init__" "Section.__init__" (defArgs s_Section_init) (defBody s_Section_init) (defScope s_Section_init) [] [] (ma K (C_Section K) "__init__") fd
  d_Section_has : ∃ fd, FunD K "has" "Section.has" (defArgs s_Section_has) (defBody s_Section_has) (defScope s_Section_has) [] [] (ma K (C_Section K) "has") fd
  d_Section_is_loaded : ∃ fd, FunD K "is_loaded" "Section.is_loaded" (defArgs s_Section_is_loaded) (defBody s_Section_is_loaded) (defScope s_Section_is_loaded) [] [] (ma K (C_Section K) "is_loaded") fd
  d_Section_class_of : ∃ fd, FunD K "class_of" "Section.class_of" (defArgs s_Section_class_of) (defBody s_Section_class_of) (defScope s_Section_class_of) [] [] (ma K (C_Section K) "class_of") fd
  d_Symbol_init : ∃ fd, FunD K "__init__" "Symbol.__init__" (defArgs s_Symbol_init) (defBody s_Symbol_init) (defScope s_Symbol_init) [] [] (ma K (C_Symbol K) "__init__") fd
  d_Symbol_is_definition : ∃ fd, FunD K "is_definition" "Symbol.is_definition" (defArgs s_Symbol_is_definition) (defBody s_Symbol_is_definition) (defScope s_Symbol_is_definition) [] [] (ma K (C_Symbol K) "is_definition") fd
  d_Relocation_init : ∃ fd, FunD K "__init__" "Relocation.__init__" (defArgs s_Relocation_init) (defBody s_Relocation_init) (defScope s_Relocation_init) [] [] (ma K (C_Relocation K) "__init__") fd
  d_Relocation_width : ∃ fd, FunD K "width" "Relocation.width" (defArgs s_Relocation_width) (defBody s_Relocation_width) (defScope s_Relocation_width) [] [] (ma K (C_Relocation K) "width") fd
  d_Told_init : ∃ fd, FunD K "__init__" "Told.__init__" (defArgs s_Told_init) (defBody s_Told_init) (defScope s_Told_init) [] [] (ma K (C_Told K) "__init__") fd
  d_sections_of : ∃ fd, FunD K "sections_of" "sections_of" (defArgs s_sections_of) (defBody s_sections_of) (defScope s_sections_of) [] [] (ga K "sections_of") fd
  g_sections_of : mg "sections_of" = some (.ref (ga K "sections_of"))
  d_check_sections : ∃ fd, FunD K "check_sections" "check_sections" (defArgs s_check_sections) (defBody s_check_sections) (defScope s_check_sections) [] [] (ga K "check_sections") fd
  g_check_sections : mg "check_sections" = some (.ref (ga K "check_sections"))
  d_bytes_of : ∃ fd, FunD K "bytes_of" "bytes_of" (defArgs s_bytes_of) (defBody s_bytes_of) (defScope s_bytes_of) [] [] (ga K "bytes_of") fd
  g_bytes_of : mg "bytes_of" = some (.ref (ga K "bytes_of"))
  d_name_at : ∃ fd, FunD K "name_at" "name_at" (defArgs s_name_at) (defBody s_name_at) (defScope s_name_at) [] [] (ga K "name_at") fd
  g_name_at : mg "name_at" = some (.ref (ga K "name_at"))
  d_check_symbol : ∃ fd, FunD K "check_symbol" "check_symbol" (defArgs s_check_symbol) (defBody s_check_symbol) (defScope s_check_symbol) [] [] (ga K "check_symbol") fd
  g_check_symbol : mg "check_symbol" = some (.ref (ga K "check_symbol"))
  d_symbols_of : ∃ fd, FunD K "symbols_of" "symbols_of" (defArgs s_symbols_of) (defBody s_symbols_of) (defScope s_symbols_of) [] [] (ga K "symbols_of") fd
  g_symbols_of : mg "symbols_of" = some (.ref (ga K "symbols_of"))
  d_relocations_of : ∃ fd, FunD K "relocations_of" "relocations_of" (defArgs s_relocations_of) (defBody s_relocations_of) (defScope s_relocations_of) [] [] (ga K "relocations_of") fd
  g_relocations_of : mg "relocations_of" = some (.ref (ga K "relocations_of"))
  d_Name_init : ∃ fd, FunD K "__init__" "Name.__init__" (defArgs s_Name_init) (defBody s_Name_init) (defScope s_Name_init) [] [] (ma K (C_Name K) "__init__") fd
  d_Name_settle : ∃ fd, FunD K "settle" "Name.settle" (defArgs s_Name_settle) (defBody s_Name_settle) (defScope s_Name_settle) [] [] (ma K (C_Name K) "settle") fd
  d_Name_is_nothing : ∃ fd, FunD K "is_nothing" "Name.is_nothing" (defArgs s_Name_is_nothing) (defBody s_Name_is_nothing) (defScope s_Name_is_nothing) [] [] (ma K (C_Name K) "is_nothing") fd
  d_Name_whereabouts : ∃ fd, FunD K "whereabouts" "Name.whereabouts" (defArgs s_Name_whereabouts) (defBody s_Name_whereabouts) (defScope s_Name_whereabouts) [] [] (ma K (C_Name K) "whereabouts") fd
  d_address_of : ∃ fd, FunD K "address_of" "address_of" (defArgs s_address_of) (defBody s_address_of) (defScope s_address_of) [] [] (ga K "address_of") fd
  g_address_of : mg "address_of" = some (.ref (ga K "address_of"))
  d_names_of : ∃ fd, FunD K "names_of" "names_of" (defArgs s_names_of) (defBody s_names_of) (defScope s_names_of) [] [] (ga K "names_of") fd
  g_names_of : mg "names_of" = some (.ref (ga K "names_of"))
  d_raised : ∃ fd, FunD K "raised" "raised" (defArgs s_raised) (defBody s_raised) (defScope s_raised) [] [] (ga K "raised") fd
  g_raised : mg "raised" = some (.ref (ga K "raised"))
  d_Layout_init : ∃ fd, FunD K "__init__" "Layout.__init__" (defArgs s_Layout_init) (defBody s_Layout_init) (defScope s_Layout_init) [] [] (ma K (C_Layout K) "__init__") fd
  d_Layout_put : ∃ fd, FunD K "put" "Layout.put" (defArgs s_Layout_put) (defBody s_Layout_put) (defScope s_Layout_put) [] [] (ma K (C_Layout K) "put") fd
  d_Layout_settle : ∃ fd, FunD K "settle" "Layout.settle" (defArgs s_Layout_settle) (defBody s_Layout_settle) (defScope s_Layout_settle) [] [] (ma K (C_Layout K) "settle") fd
  d_Layout_file_size : ∃ fd, FunD K "file_size" "Layout.file_size" (defArgs s_Layout_file_size) (defBody s_Layout_file_size) (defScope s_Layout_file_size) [] [] (ma K (C_Layout K) "file_size") fd
  d_place_all : ∃ fd, FunD K "place_all" "place_all" (defArgs s_place_all) (defBody s_place_all) (defScope s_place_all) [] [] (ga K "place_all") fd
  g_place_all : mg "place_all" = some (.ref (ga K "place_all"))
  d_images_of : ∃ fd, FunD K "images_of" "images_of" (defArgs s_images_of) (defBody s_images_of) (defScope s_images_of) [] [] (ga K "images_of") fd
  g_images_of : mg "images_of" = some (.ref (ga K "images_of"))
  d_value_of : ∃ fd, FunD K "value_of" "value_of" (defArgs s_value_of) (defBody s_value_of) (defScope s_value_of) [] [] (ga K "value_of") fd
  g_value_of : mg "value_of" = some (.ref (ga K "value_of"))
  d_target_of : ∃ fd, FunD K "target_of" "target_of" (defArgs s_target_of) (defBody s_target_of) (defScope s_target_of) [] [] (ga K "target_of") fd
  g_target_of : mg "target_of" = some (.ref (ga K "target_of"))
  d_relocate : ∃ fd, FunD K "relocate" "relocate" (defArgs s_relocate) (defBody s_relocate) (defScope s_relocate) [] [] (ga K "relocate") fd
  g_relocate : mg "relocate" = some (.ref (ga K "relocate"))
  d_stored : ∃ fd, FunD K "stored" "stored" (defArgs s_stored) (defBody s_stored) (defScope s_stored) [] [] (ga K "stored") fd
  g_stored : mg "stored" = some (.ref (ga K "stored"))
  d_header_of : ∃ fd, FunD K "header_of" "header_of" (defArgs s_header_of) (defBody s_header_of) (defScope s_header_of) [] [] (ga K "header_of") fd
  g_header_of : mg "header_of" = some (.ref (ga K "header_of"))
  d_program_header : ∃ fd, FunD K "program_header" "program_header" (defArgs s_program_header) (defBody s_program_header) (defScope s_program_header) [] [] (ga K "program_header") fd
  g_program_header : mg "program_header" = some (.ref (ga K "program_header"))
  d_filled : ∃ fd, FunD K "filled" "filled" (defArgs s_filled) (defBody s_filled) (defScope s_filled) [] [] (ga K "filled") fd
  g_filled : mg "filled" = some (.ref (ga K "filled"))
  d_file_of : ∃ fd, FunD K "file_of" "file_of" (defArgs s_file_of) (defBody s_file_of) (defScope s_file_of) [] [] (ga K "file_of") fd
  g_file_of : mg "file_of" = some (.ref (ga K "file_of"))
  d_objects_of : ∃ fd, FunD K "objects_of" "objects_of" (defArgs s_objects_of) (defBody s_objects_of) (defScope s_objects_of) [] [] (ga K "objects_of") fd
  g_objects_of : mg "objects_of" = some (.ref (ga K "objects_of"))
  d_memory_of : ∃ fd, FunD K "memory_of" "memory_of" (defArgs s_memory_of) (defBody s_memory_of) (defScope s_memory_of) [] [] (ga K "memory_of") fd
  g_memory_of : mg "memory_of" = some (.ref (ga K "memory_of"))
  d_linked : ∃ fd, FunD K "linked" "linked" (defArgs s_linked) (defBody s_linked) (defScope s_linked) [] [] (ga K "linked") fd
  g_linked : mg "linked" = some (.ref (ga K "linked"))
  d_link : ∃ fd, FunD K "link" "link" (defArgs s_link) (defBody s_link) (defScope s_link) [] [] (ga K "link") fd
  g_link : mg "link" = some (.ref (ga K "link"))
  low : PySem.LowX.LowTxt K mg (BK K) (ma K (BK K) "__init__")
end Lk

set_option Elab.async false
set_option linter.all false
set_option maxRecDepth 100000
set_option maxHeartbeats 4000000
/-! # Rules of my own: a list that the module wrote in a sum, a slice stored, a dict asked by a tuple that the module wrote -/
namespace Lk
open PySem PySem.Spec PyProof.Rows L2 Evl He
section
variable {X : Cx}
/-- xs + ys, each of them tracked or written -/
def rCatK (K : PySem.W.Frag) : R2 := fun x y H Q => ∃ l b xs zs, x = .ref l ∧ y = .ref b ∧ SqL K H l xs ∧ SqL K H b zs ∧ xs.length + zs.length ≤ sizeLine ∧ ∀ p, H p = none → Q (.ref p) (upd H p (.lst (xs ++ zs)))
theorem op_catK : OpR X (binaryOp .Add) (rCatK X.K) := by
  intro pins s σ H x y v u Q I rx ry h
  obtain ⟨l, b, xs, zs, rfl, rfl, hH, hB, hz, q⟩ := h
  cases rx
  cases ry
  obtain ⟨its, r, ⟨⟨c1, d1, t1, l1⟩, n1, g1, hc1, hd1, ht1⟩, z1⟩ := I.list hH
  obtain ⟨its2, r2, ⟨⟨c2, d2, t2, l2⟩, n2, g2, hc2, hd2, ht2⟩, z2⟩ := I.list hB
  simp only at hc1 hd1 ht1 hc2 hd2 ht2
  subst hc1 hd1 ht1 hc2 hd2 ht2
  have e1 := r.length
  have e2 := r2.length
  have ea : its.toArray ++ its2.toArray = (its ++ its2).toArray := by simp
  refine concat_meets ⟨_, g1, rfl⟩ ⟨_, g2, rfl⟩ noFill_list_add seq_list_add PySem.F.slot_list_add PySem.F.entry_list_add (PySem.F.args_list_add_2 _ _) (list_addW l b its.toArray its2.toArray n1 n2 none none l1 l2 (by rw [List.size_toArray, List.size_toArray]; omega)) ⟨g1, g2, ?_⟩
  rw [ea]
  exact ⟨.ref _, _, I.lnew (t' := s.toks) (r.append r2) (by rw [List.length_append]; omega), rfl, q _ I.fresh⟩
/-- the key of a dict of tuples: a tuple that is tracked or written -/
def DGetK (K : PySem.W.Frag) (H : Hp) (a : Addr) (y : V) (r : Option V) : Prop := ∃ kvs k b, Rd H a (.dT kvs) ∧ y = .ref b ∧ SqT K H b (k.map kV) ∧ r = valV kvs k
section
variable {pins : List (Addr × Obj)} {σ : L2.St} {H : Hp} {s : Shared} {a : Addr} {y v : V} {u : Value} {o : Option V}
theorem key_ofK {ks : List Key} {b : Addr} (I : Inv X pins σ H s) (e : SqT X.K H b (ks.map kV)) : (tupleKind (mixKind X.prog X.w)).is s.heap ks b := by
  obtain ⟨its, r, ⟨o, h1, h2, n, h3⟩, _⟩ := I.tuple e
  exact ⟨o, its.toArray, n, h1, h2, h3, by simpa using items_are r⟩
theorem d_inK {A : Around} {E : Value → Shared → Prop} {Q : Value → Shared → Prop} (hu : A.units + 1 < cLine) (I : Inv X pins σ H s) (g : DGetK X.K H a y o) (ry : RelV y u) (h : ∀ s', Inv X pins σ H s' → Q (.bool o.isSome) s') :
    wpAny (model X.prog X.w) A (compareOp .In u (.ref a)) Q E s := by
  obtain ⟨kvs, k, b, e, ey, eb, l⟩ := g
  subst ey
  cases (show u = Value.ref b from ry)
  obtain ⟨z, hd, xs, rel, dd⟩ := dt_rd I.hok e
  refine wpAny_in_heap (tupleKind_room_in1 hu) (key_ofK I eb) hd dd ?_
  have q := (rel.val k).isSome_eq
  rw [Option.isSome_map] at q
  rw [← q, ← l]
  exact h _ (I.tok _)
theorem d_getItemK {A : Around} {E : Value → Shared → Prop} {Q : Value → Shared → Prop} (hu : A.units + 1 < cLine) (I : Inv X pins σ H s) (g : DGetK X.K H a y (some v)) (ry : RelV y u) (h : ∀ w' s', Inv X pins σ H s' → RelV v w' → Q w' s') :
    wpAny (model X.prog X.w) A (getItem (.ref a) u) Q E s := by
  obtain ⟨kvs, k, b, e, ey, eb, l⟩ := g
  subst ey
  cases (show u = Value.ref b from ry)
  obtain ⟨z, hd, xs, rel, dd⟩ := dt_rd I.hok e
  obtain ⟨w', hw, rw'⟩ := RelO.some_of (v := v) (o := (atKey xs k).map (·.2)) (by rw [l]; exact rel.val k)
  obtain ⟨p, hp, hp2⟩ := Option.map_eq_some_iff.mp hw
  refine wpAny_getItem_heap (tupleKind_room_in1 hu) (key_ofK I eb) dd hp ?_
  rw [hp2]
  exact h w' _ (I.tok _) rw'
theorem dict_typeIsK (I : Inv X pins σ H s) (g : DGetK X.K H a y o) : s.TypeIs (.ref a) "dict" := by
  obtain ⟨kvs, k, b, e, ey, eb, l⟩ := g
  obtain ⟨z, hd, xs, rel, oo, es, ep, h1, h2, h3, h4⟩ := (show ObjOk X.prog X.w H s.heap a (.dT kvs) from e.ok I.hok)
  exact ⟨oo, h1, h2.1⟩
end
def tDInK (K : PySem.W.Frag) (ty td : TE) : TE := fun σ H Q => ty σ H fun y H1 => td σ H1 fun x H2 => ∃ a o, x = .ref a ∧ DGetK K H2 a y o ∧ Q (.bl o.isSome) H2
def tDGetK (K : PySem.W.Frag) (td ty : TE) : TE := fun σ H Q => td σ H fun x H1 => ty σ H1 fun y H2 => ∃ a v, x = .ref a ∧ DGetK K H2 a y (some v) ∧ Q v H2
theorem pc_dinK {i o : Expr} {ty td : TE} (hu : X.A.units + 1 < cLine) (hi : PE X i ty) (ho : PE X o td) : PC X .In i o (tDInK X.K ty td) := by
  refine ⟨fun pins s σ H Q I h => ?_⟩
  refine thn (hi.run pins s σ H _ I h) fun iv s1 ⟨y, H1, I1, ry, q1⟩ => thn (ho.run pins s1 σ H1 _ I1 q1) fun u s2 ⟨x, H2, I2, rx, a, ov, ex, g, q2⟩ => ?_
  subst ex
  obtain rfl : u = Value.ref a := rx
  exact d_inK hu I2 g ry fun s3 I3 => ⟨.bl ov.isSome, H2, I3, rfl, q2⟩
theorem pe_dgetK {i o : Expr} {ty td : TE} {pos : Pos} (hu : X.A.units + 1 < cLine) (ho : PE X o td) (hi : PE X i ty) (hs : NoSl i) : PE X (.Subscript o i pos) (tDGetK X.K td ty) := by
  refine ⟨fun pins s σ H Q I h => ?_⟩
  refine subD_of PySem.F.slot_dict_getitem.lookup hs (thn (ho.run pins s σ H _ I h) fun u s1 ⟨x, H1, I1, rx, q1⟩ => thn (hi.run pins s1 σ H1 _ I1 q1) fun iv s2 ⟨y, H2, I2, ry, a, v, ex, g, q2⟩ => ?_)
  subst ex
  obtain rfl : u = Value.ref a := rx
  exact ⟨dict_typeIsK I2 g, d_getItemK hu I2 g ry fun w' s3 I3 rw' => ⟨v, H2, I3, rw', q2⟩⟩
/-- o[a:c] = a list -/
def gSliceL (to tl th : TE) : TG := fun v σ H Q => to σ H fun o H1 => tl σ H1 fun x H2 => th σ H2 fun y H3 => ∃ (l b : Addr) (xs ys : List V) (a c : Int), o = .ref l ∧ v = .ref b ∧ x = .int a ∧ y = .int c ∧ H3 l = some (.lst xs) ∧ H3 b = some (.lst ys) ∧ l ≠ b ∧
  0 ≤ a ∧ a ≤ c ∧ c ≤ xs.length ∧ xs.length + ys.length ≤ sizeLine ∧ Q σ (upd H3 l (.lst (xs.take a.toNat ++ ys ++ xs.drop c.toNat)))
theorem pg_sliceL {o lo hi : Expr} {to tl th : TE} {p2 pos : Pos} (ho : PE X o to) (hl : PE X lo tl) (hu : PE X hi th)
    (ha : ∀ v, assign (.Subscript o (.Slice (some lo) (some hi) none p2) pos) X.env v = (do
      let ov ← holding [v] (eval o X.env)
      let iv ← holding [v, ov] (eval (.Slice (some lo) (some hi) none p2) X.env)
      standAt pos
      holding [v, ov, iv] (setItem ov iv v)
      release [iv, v, ov] []) := by intro _; rfl) : PG X (.Subscript o (.Slice (some lo) (some hi) none p2) pos) (gSliceL to tl th) := by
  refine ⟨fun pins s σ H v u Q I r h => ?_⟩
  rw [ha]
  refine wpAny_bind (wpAny_holding (thn (ho.run pins s σ H _ I h) fun ov s1 ⟨x, H1, I1, r1, q1⟩ => ?_))
  refine wpAny_bind (wpAny_holding (wpAny_Slice ?_))
  rw [evalPart_some]
  refine thn (hl.run pins s1 σ H1 _ I1 q1) fun vl s2 ⟨y, H2, I2, r2, q2⟩ => ?_
  rw [evalPart_some]
  refine thn (hu.run pins s2 σ H2 _ I2 q2) fun vu s3 ⟨z, H3, I3, r3, q3⟩ => ?_
  rw [evalPart_none]
  refine wpAny_pure ?_
  have I4 : Inv X pins σ H3 { s3 with heap := s3.heap.push { cls := .type "slice", data := .fields #[vl, vu, .none] } } := I3.kept (t' := s3.toks) fun b ob q => Heap.get?_push_of_some _ q
  obtain ⟨l, b, xs, ys, a, c, e1, e2, e3, e4, hH, hB, hne, h0, hac, hc, hz, q⟩ := q3
  subst e1 e2 e3 e4
  obtain rfl : ov = Value.ref l := r1
  obtain rfl : u = Value.ref b := r
  refine wpAny_bind (wpAny_standAt (wpAny_bind (wpAny_holding ?_)))
  refine set_slice I4 hH hB hne (Heap.IsSliceOf.new ..) r2 r3 h0 hac hc hz fun s' I' => ?_
  exact wpAny_release ⟨σ, _, I', q⟩
end
/-! ### the same rules with the written part by its name: a comprehension's block has it by another one -/
section
variable {X : Cx} {K : PySem.W.Frag}
theorem pe_fldK {e : Expr} {f : Str} {pos : Pos} {ta : TE} (he : PE X e ta) (hk : X.K = K := by rfl) (hb : attributeBase e f X.env (eval e X.env) = eval e X.env := by rfl) : PE X (.Attribute e f pos) (tFld K ta f) := by
  subst hk
  exact pe_fld he hb
theorem ix_listK (hk : X.K = K := by rfl) : IxR X (rIxL K) := by
  subst hk
  exact ix_list
theorem ix_tupK (hk : X.K = K := by rfl) : IxR X (rIxT K) := by
  subst hk
  exact ix_tup
theorem op_inK (hk : X.K = K := by rfl) : OpR X (compareOp .In) (rIn K false) := by
  subst hk
  exact op_in_seq
theorem op_ninK (hk : X.K = K := by rfl) : OpR X (compareOp .NotIn) (rIn K true) := by
  subst hk
  exact op_notIn_seq
theorem sl_listK (hk : X.K = K := by rfl) : SlR X (rSlL K) := by
  subst hk
  exact sl_list
theorem call_lenK (hk : X.K = K := by rfl) : CallR X (.builtin "len") (rLenS K) := by
  subst hk
  exact call_len_seq
theorem call_listK (hk : X.K = K := by rfl) : CallR X (.type "list") (rListS K) := by
  subst hk
  exact call_list_of
def rTupS (K : PySem.W.Frag) : List V → Hp → VK → Prop := fun xs H Q => ∃ p ys, xs = [.ref p] ∧ ((SqL K H p ys ∧ ∀ l, H l = none → Q (.ref l) (upd H l (.tup ys))) ∨ (SqT K H p ys ∧ Q (.ref p) H))
theorem call_tupleK (hk : X.K = K := by rfl) : CallR X (.type "tuple") (rTupS K) := by
  subst hk
  exact call_tuple_of
theorem cr_sumK (hc : X.calm = true) (hk : X.K = K := by rfl) : CallR X (.builtin "sum") (rSum K) := by
  subst hk
  exact cr_sum hc
theorem cr_maxK (hc : X.calm = true) (hk : X.K = K := by rfl) : CallR X (.builtin "max") (rMax K) := by
  subst hk
  exact cr_max hc
theorem cr_anyK (hc : X.calm = true) (hk : X.K = K := by rfl) : CallR X (.builtin "any") (rAny K) := by
  subst hk
  exact cr_any hc
theorem op_catKK (hk : X.K = K := by rfl) : OpR X (binaryOp .Add) (rCatK K) := by
  subst hk
  exact op_catK
theorem op_eqDK (hu : X.A.units + 64 < cLine) (hk : X.K = K := by rfl) : OpR X (compareOp .Eq) (rEqD K) := by
  subst hk
  exact op_eqD hu
theorem op_neDK (hu : X.A.units + 64 < cLine) (hk : X.K = K := by rfl) : OpR X (compareOp .NotEq) (rNeD K) := by
  subst hk
  exact op_neD hu
theorem pi_listK {tg l : Expr} {tl : TE} (hl : PE X l tl) (hk : X.K = K := by rfl) : PI X tg l (iList K tl) := by
  subst hk
  exact pi_list hl
theorem pe_bmK {o e : Expr} {es : List Expr} {to : TE} {t : TA} {name : Str} {apos cpos : Pos} {T id : String} {r : V → List V → Hp → VK → Prop} (pa : PlainAttrs T) (slot : Slot T name id) (hty : typeOf (.builtin id) = pure (.type "method_descriptor")) (hm : MtR X id r) (ho : PE X o to) (ha : PA X (e :: es) t) (hk : X.K = K := by rfl)
    (hbase : attributeBase o name X.env (eval o X.env) = eval o X.env := by rfl)
    (hfew : ((backTo cpos (starEach (e :: es) X.env)).all (fun x => !x.1) && (backToKw cpos (keywordEach [] X.env)).all (fun x => x.1.isSome)
      && decide ((e :: es).length + ([] : List Keyword).length + (if ([] : List Keyword).isEmpty then 0 else 1) < 30)) = true := by rfl)
    (hline : (apos.endLine == cpos.line) = true := by rfl) (hs : starEach (e :: es) X.env = (false, eval e X.env) :: starEach es X.env := by rfl) (hplain : (backTo cpos (starEach es X.env)).any (·.1) = false := by rfl) :
    PE X (.Call (.Attribute o name apos) (e :: es) [] cpos) (tBM K T r to t) := by
  subst hk
  exact pe_bm pa slot hty hm ho ha hbase hfew hline hs hplain
def tTruK (K : PySem.W.Frag) (ta : TE) : TT := fun σ H Q => ta σ H fun x H' => ∃ k, TruV K x H' k ∧ Q k H'
theorem pt_truthK {a : Expr} {ta : TE} (ha : PE X a ta) (hk : X.K = K := by rfl) (he : ∀ whole, isTrue a X.env whole = (do let v ← whole; standAt a.pos; holding [v] (truthy v)) := by intro _; rfl) : PT X a (tTruK K ta) := by
  subst hk
  exact pt_truth ha he
theorem ps_fldK {o value : Expr} {f : Str} {pos pos' : Pos} {ta tv : TE} (ha : PE X o ta) (hv : PE X value tv) (hk : X.K = K := by rfl) (hs : swapsWith value (some (.Attribute o f pos')) pos.line X.env = pure false := by rfl) : PS X (.Assign [.Attribute o f pos'] value pos) (sFld K ta tv f) := by
  subst hk
  exact ps_fld ha hv hs
theorem ps_fldaugK {o value : Expr} {f : Str} {tpos pos : Pos} {ta tv : TE} {op : Operator} {rd : V → V → Hp → VK → Prop} (ha : PE X o ta) (hv : PE X value tv) (hop : InOp X op rd) (hk : X.K = K := by rfl) : PS X (.AugAssign (.Attribute o f tpos) op value pos) (sFldAug K ta tv rd f) := by
  subst hk
  exact ps_fldaug ha hv hop
theorem pg_tupK {es : List Expr} {k : Nat} {t : TGs} {n : Nat} {pos : Pos} (hc : X.calm = true) (h : PGs X es t) (hk : X.K = K := by rfl)
    (hn : (assignEach es X.env).length = n := by rfl) (hst : (assignEach es X.env).findIdx? (·.1) = none := by rfl) : PG X (.Tuple es k pos) (gTup K n t) := by
  subst hk
  exact pg_tup hc h hn hst
theorem pc_dinKK {i o : Expr} {ty td : TE} (hu : X.A.units + 1 < cLine) (hi : PE X i ty) (ho : PE X o td) (hk : X.K = K := by rfl) : PC X .In i o (tDInK K ty td) := by
  subst hk
  exact pc_dinK hu hi ho
theorem pe_dgetKK {i o : Expr} {ty td : TE} {pos : Pos} (hu : X.A.units + 1 < cLine) (ho : PE X o td) (hi : PE X i ty) (hs : NoSl i) (hk : X.K = K := by rfl) : PE X (.Subscript o i pos) (tDGetK K td ty) := by
  subst hk
  exact pe_dgetK hu ho hi hs
end
end Lk

set_option Elab.async false
set_option linter.all false
set_option maxRecDepth 100000
set_option maxHeartbeats 4000000
/-! # Numbers that are not negative; what lies in the heap -/
namespace Lk
open PySem PySem.Spec PyProof.Rows L2 Evl He
abbrev nv (n : Nat) : V := .int (n : Int)
section
variable {σ : L2.St} {H : Hp} {ta tb te : TE} {a b : Nat} {x y : Bool} {K : PySem.W.Frag} {p : Addr} {l : List Nat}
theorem ev_kN (n : Nat) {i : Int} (h : i = (n : Int) := by rfl) : Ev (tC (.int i)) σ H (nv n) := by
  subst h
  exact ev_c
theorem ev_I0 {g : Int → Int → V} {i j : Int} {z : V} (ha : Ev ta σ H (.int i)) (hb : Ev tb σ H (.int j)) (e : g i j = z) : Ev (tOp (rI0 g) ta tb) σ H z := by
  subst e
  exact ev_op ha hb rv_I0
theorem ev_I {C : Int → Int → Prop} {g : Int → Int → V} {i j : Int} {z : V} (ha : Ev ta σ H (.int i)) (hb : Ev tb σ H (.int j)) (hc : C i j) (e : g i j = z) : Ev (tOp (rI C g) ta tb) σ H z := by
  subst e
  exact ev_op ha hb (rv_I hc)
theorem ev_addN (ha : Ev ta σ H (nv a)) (hb : Ev tb σ H (nv b)) : Ev (tOp (rI0 fun i j => .int (i + j)) ta tb) σ H (nv (a + b)) := ev_I0 ha hb rfl
theorem ev_subN (ha : Ev ta σ H (nv a)) (hb : Ev tb σ H (nv b)) (h : b ≤ a) : Ev (tOp (rI0 fun i j => .int (i - j)) ta tb) σ H (nv (a - b)) := ev_I0 ha hb (by
  show V.int _ = V.int _
  congr 1
  omega)
theorem ev_mulN (ha : Ev ta σ H (nv a)) (hb : Ev tb σ H (nv b)) (h : a < 2 ^ 64 ∨ b < 2 ^ 64) : Ev (tOp (rI CMul fun i j => .int (i * j)) ta tb) σ H (nv (a * b)) := ev_I ha hb (by
  rcases h with h | h
  · exact .inl ⟨by omega, by omega⟩
  · exact .inr ⟨by omega, by omega⟩) rfl
theorem ev_fdivN (ha : Ev ta σ H (nv a)) (hb : Ev tb σ H (nv b)) (h : 0 < b) (h2 : b < 1073741824) : Ev (tOp (rI CDiv fun i j => .int (i / j)) ta tb) σ H (nv (a / b)) := ev_I ha hb ⟨by omega, by omega⟩ rfl
theorem ev_modN (ha : Ev ta σ H (nv a)) (hb : Ev tb σ H (nv b)) (h : 0 < b) : Ev (tOp (rI (fun _ j => 0 < j) fun i j => .int (i % j)) ta tb) σ H (nv (a % b)) := ev_I ha hb (show (0 : Int) < (b : Int) by omega) rfl
theorem ev_shlN (ha : Ev ta σ H (nv a)) (hb : Ev tb σ H (nv b)) (h : a < 2 ^ 64) (h2 : b ≤ 1000000) : Ev (tOp (rI CPow fun i j => .int (i * 2 ^ j.toNat)) ta tb) σ H (nv (a * 2 ^ b)) := ev_I ha hb ⟨by omega, by omega, by omega⟩ (by
  show V.int ((a : Int) * 2 ^ ((b : Int)).toNat) = V.int ((a * 2 ^ b : Nat) : Int)
  rw [Int.toNat_natCast, Int.natCast_mul, Int.natCast_pow]
  rfl)
theorem ev_shrN (ha : Ev ta σ H (nv a)) (hb : Ev tb σ H (nv b)) : Ev (tOp (rI (fun _ j => 0 ≤ j) fun i j => .int (i / 2 ^ j.toNat)) ta tb) σ H (nv (a / 2 ^ b)) := ev_I ha hb (show (0 : Int) ≤ (b : Int) by omega) (by
  show V.int ((a : Int) / 2 ^ ((b : Int)).toNat) = V.int ((a / 2 ^ b : Nat) : Int)
  rw [Int.toNat_natCast, Int.natCast_ediv, Int.natCast_pow]
  rfl)
theorem ev_ltN (ha : Ev ta σ H (nv a)) (hb : Ev tb σ H (nv b)) : Ev (tOp (rI0 fun i j => .bl (decide (i < j))) ta tb) σ H (.bl (decide (a < b))) := ev_I0 ha hb (by
  show V.bl _ = V.bl _
  congr 1
  exact decide_eq_decide.mpr (by omega))
theorem ev_leN (ha : Ev ta σ H (nv a)) (hb : Ev tb σ H (nv b)) : Ev (tOp (rI0 fun i j => .bl (decide (i ≤ j))) ta tb) σ H (.bl (decide (a ≤ b))) := ev_I0 ha hb (by
  show V.bl _ = V.bl _
  congr 1
  exact decide_eq_decide.mpr (by omega))
theorem ev_gtN (ha : Ev ta σ H (nv a)) (hb : Ev tb σ H (nv b)) : Ev (tOp (rI0 fun i j => .bl (decide (j < i))) ta tb) σ H (.bl (decide (b < a))) := ev_I0 ha hb (by
  show V.bl _ = V.bl _
  congr 1
  exact decide_eq_decide.mpr (by omega))
theorem ev_geN (ha : Ev ta σ H (nv a)) (hb : Ev tb σ H (nv b)) : Ev (tOp (rI0 fun i j => .bl (decide (j ≤ i))) ta tb) σ H (.bl (decide (b ≤ a))) := ev_I0 ha hb (by
  show V.bl _ = V.bl _
  congr 1
  exact decide_eq_decide.mpr (by omega))
theorem nv_eq : decide ((nv a : V) = nv b) = decide (a = b) := decide_eq_decide.mpr ⟨fun h => by
  have z := V.int.inj h
  omega, fun h => by rw [h]⟩
theorem ev_eqN (ha : Ev ta σ H (nv a)) (hb : Ev tb σ H (nv b)) : Ev (tOp rEq ta tb) σ H (.bl (decide (a = b))) := by
  rw [← nv_eq]
  exact ev_op ha hb (rv_eq rfl)
theorem ev_neN (ha : Ev ta σ H (nv a)) (hb : Ev tb σ H (nv b)) : Ev (tOp rNe ta tb) σ H (.bl (!decide (a = b))) := by
  rw [← nv_eq]
  exact ev_op ha hb (rv_ne rfl)
theorem et_eqN (ha : Ev ta σ H (nv a)) (hb : Ev tb σ H (nv b)) : EvT (tTest (tOp rEq ta tb)) σ H (decide (a = b)) := et_test (ev_eqN ha hb)
theorem et_neN (ha : Ev ta σ H (nv a)) (hb : Ev tb σ H (nv b)) : EvT (tTest (tOp rNe ta tb)) σ H (!decide (a = b)) := et_test (ev_neN ha hb)
theorem ev_neg {n : Int} (i : Int) (h : -n = i := by rfl) : Ev (tUn (rU fun i => .int (-i)) (tC (.int n))) σ H (.int i) := by
  subst h
  exact ev_un ev_c ru_neg
/-- an item of a list of numbers -/
theorem ev_ixN (ha : Ev ta σ H (.ref p)) (h : SqL K H p (iv l)) (hb : Ev tb σ H (nv a)) {n : Nat} (hn : l[a]? = some n) : Ev (tOp (rIxL K) ta tb) σ H (nv n) := ev_op ha hb (rv_ixL h (atI_nat (iv_at hn)))
theorem ev_ixL {xs : List V} {v : V} (ha : Ev ta σ H (.ref p)) (h : SqL K H p xs) (hb : Ev tb σ H (nv a)) (hn : xs[a]? = some v) : Ev (tOp (rIxL K) ta tb) σ H v := ev_op ha hb (rv_ixL h (atI_nat hn))
theorem ev_ixT {xs : List V} {v : V} (ha : Ev ta σ H (.ref p)) (h : SqT K H p xs) (hb : Ev tb σ H (nv a)) (hn : xs[a]? = some v) : Ev (tOp (rIxT K) ta tb) σ H v := ev_op ha hb (rv_ixT h (atI_nat hn))
theorem flat_iv (l : List Nat) : (iv l).all flatV = true := by
  unfold iv
  rw [List.all_eq_true]
  intro v h
  obtain ⟨n, _, rfl⟩ := List.mem_map.mp h
  rfl
theorem inV_iv (a : Nat) : ∀ l : List Nat, inV (nv a) (iv l) = l.contains a
  | [] => rfl
  | n :: r => by
    have ih := inV_iv a r
    have e : iv (n :: r) = nv n :: iv r := rfl
    rw [e, List.contains_cons, ← ih]
    unfold inV
    rw [List.any_cons]
    have e2 : ∀ z : V, (z = nv n) → eqV z (nv a) = (a == n) := fun z hz => by
      subst hz
      show decide ((n : Int) = (a : Int)) = (a == n)
      by_cases h : a = n
      · subst h
        simp
      · have h' : ¬ (n : Int) = (a : Int) := by omega
        rw [decide_eq_false h']
        exact (beq_eq_false_iff_ne.mpr h).symm
    first
      | rw [e2 _ rfl]
      | (congr 1; first | exact e2 _ rfl | (simp only [eqV]; by_cases h : a = n <;> simp [h] <;> omega))
/-- a in (b, c, ..), the tuple made on the way -/
theorem ev_inN (ha : Ev ta σ H (nv a)) {at_ : TA} (hb : EvA at_ σ H (iv l)) (hl : l.length ≤ 100000) : Ev (tOp (rIn K false) ta (tTup at_)) σ H (.bl (l.contains a)) := by
  rw [← inV_iv]
  exact ev_inU ha (eu_tup hb (by rw [iv_len]; exact hl)) rfl (flat_iv l)
theorem ev_ninN (ha : Ev ta σ H (nv a)) {at_ : TA} (hb : EvA at_ σ H (iv l)) (hl : l.length ≤ 100000) : Ev (tOp (rIn K true) ta (tTup at_)) σ H (.bl (!l.contains a)) := by
  rw [← inV_iv]
  exact ev_niU ha (eu_tup hb (by rw [iv_len]; exact hl)) rfl (flat_iv l)
theorem ea_cons' {tr : TA} {vs : List Nat} (h : Ev ta σ H (nv a)) (hr : EvA tr σ H (iv vs)) : EvA (tCons ta tr) σ H (iv (a :: vs)) := ea_cons h hr
theorem ea_nil' : EvA tNil σ H (iv []) := ea_nil
end
/-! ### Python's objects -/
/-- a list of bytes -/
structure Rw (K : PySem.W.Frag) (H : Hp) (a : Addr) (l : List Nat) : Prop where
  sq : SqL K H a (iv l)
  len : l.length ≤ 65536
  by_ : ∀ b ∈ l, b < 256
def secF (s : Sn17.Sec) (p ad : Nat) : List (Str × V) := [("sort_of", nv s.type), ("flags", nv s.flags), ("begin", nv s.offset), ("size", nv s.size), ("linked", nv s.link), ("info", nv s.info), ("alignment", nv s.align), ("entry", nv s.entry), ("place", nv p), ("address", nv ad)]
def symF (t : Addr) (y : Sn17.Sym) : List (Str × V) := [("name", .ref t), ("binding", nv y.bind), ("section", nv y.sec), ("value", nv y.value), ("size", nv y.size)]
def relF (c : Addr) (r : Sn17.Rel) : List (Str × V) := [("section", .ref c), ("offset", nv r.offset), ("kind", nv r.type), ("symbol", nv r.sym), ("addend", .int r.more)]
def SecAt (K : PySem.W.Frag) (H : Hp) (a : Addr) (s : Sn17.Sec) (p ad : Nat) : Prop := ∃ dx, H a = some (.ins (C_Section K) dx (secF s p ad))
def SymAt (K : PySem.W.Frag) (H : Hp) (a : Addr) (y : Sn17.Sym) : Prop := ∃ dx t, H a = some (.ins (C_Symbol K) dx (symF t y)) ∧ H t = some (.tup (iv y.name))
def RelAt (K : PySem.W.Frag) (H : Hp) (a : Addr) (r : Sn17.Rel) (c : Addr) : Prop := ∃ dx, H a = some (.ins (C_Relocation K) dx (relF c r))
section
variable {K : PySem.W.Frag} {mg : Str → Option Value} {H H' : Hp} {a : Addr}
theorem Rw.mono {l : List Nat} (h : Rw K H a l) (e : Ex H H') : Rw K H' a l := ⟨ex_l e h.sq, h.len, h.by_⟩
theorem Rw.up {l : List Nat} {p C dx : Addr} {fs : List (Str × V)} (h : Rw K H a l) (u : Up p H H') (q : H p = some (.ins C dx fs)) : Rw K H' a l := ⟨u.sqL q h.sq, h.len, h.by_⟩
theorem SecAt.mono {s : Sn17.Sec} {p ad : Nat} (h : SecAt K H a s p ad) (e : Ex H H') : SecAt K H' a s p ad := by
  obtain ⟨dx, h⟩ := h
  exact ⟨dx, e _ _ h⟩
theorem SymAt.mono {y : Sn17.Sym} (h : SymAt K H a y) (e : Ex H H') : SymAt K H' a y := by
  obtain ⟨dx, t, h, h2⟩ := h
  exact ⟨dx, t, e _ _ h, e _ _ h2⟩
theorem RelAt.mono {r : Sn17.Rel} {c : Addr} (h : RelAt K H a r c) (e : Ex H H') : RelAt K H' a r c := by
  obtain ⟨dx, h⟩ := h
  exact ⟨dx, e _ _ h⟩
theorem fl_Section_sort_of (T : Tx K mg) {H : Hp} {a : Addr} {s : Sn17.Sec} {p ad : Nat} (h : SecAt K H a s p ad) : Fl K H a "sort_of" (nv s.type) := by
  obtain ⟨dx, h⟩ := h
  exact ⟨_, dx, _, h, T.c_Section, T.n_Section_sort_of, lk_at (ks := ["sort_of", "flags", "begin", "size", "linked", "info", "alignment", "entry", "place", "address"]) (i := 0) rfl (by decide +kernel) rfl⟩
theorem fl_Section_flags (T : Tx K mg) {H : Hp} {a : Addr} {s : Sn17.Sec} {p ad : Nat} (h : SecAt K H a s p ad) : Fl K H a "flags" (nv s.flags) := by
  obtain ⟨dx, h⟩ := h
  exact ⟨_, dx, _, h, T.c_Section, T.n_Section_flags, lk_at (ks := ["sort_of", "flags", "begin", "size", "linked", "info", "alignment", "entry", "place", "address"]) (i := 1) rfl (by decide +kernel) rfl⟩
theorem fl_Section_begin (T : Tx K mg) {H : Hp} {a : Addr} {s : Sn17.Sec} {p ad : Nat} (h : SecAt K H a s p ad) : Fl K H a "begin" (nv s.offset) := by
  obtain ⟨dx, h⟩ := h
  exact ⟨_, dx, _, h, T.c_Section, T.n_Section_begin, lk_at (ks := ["sort_of", "flags", "begin", "size", "linked", "info", "alignment", "entry", "place", "address"]) (i := 2) rfl (by decide +kernel) rfl⟩
theorem fl_Section_size (T : Tx K mg) {H : Hp} {a : Addr} {s : Sn17.Sec} {p ad : Nat} (h : SecAt K H a s p ad) : Fl K H a "size" (nv s.size) := by
  obtain ⟨dx, h⟩ := h
  exact ⟨_, dx, _, h, T.c_Section, T.n_Section_size, lk_at (ks := ["sort_of", "flags", "begin", "size", "linked", "info", "alignment", "entry", "place", "address"]) (i := 3) rfl (by decide +kernel) rfl⟩
theorem fl_Section_linked (T : Tx K mg) {H : Hp} {a : Addr} {s : Sn17.Sec} {p ad : Nat} (h : SecAt K H a s p ad) : Fl K H a "linked" (nv s.link) := by
  obtain ⟨dx, h⟩ := h
  exact ⟨_, dx, _, h, T.c_Section, T.n_Section_linked, lk_at (ks := ["sort_of", "flags", "begin", "size", "linked", "info", "alignment", "entry", "place", "address"]) (i := 4) rfl (by decide +kernel) rfl⟩
theorem fl_Section_info (T : Tx K mg) {H : Hp} {a : Addr} {s : Sn17.Sec} {p ad : Nat} (h : SecAt K H a s p ad) : Fl K H a "info" (nv s.info) := by
  obtain ⟨dx, h⟩ := h
  exact ⟨_, dx, _, h, T.c_Section, T.n_Section_info, lk_at (ks := ["sort_of", "flags", "begin", "size", "linked", "info", "alignment", "entry", "place", "address"]) (i := 5) rfl (by decide +kernel) rfl⟩
theorem fl_Section_alignment (T : Tx K mg) {H : Hp} {a : Addr} {s : Sn17.Sec} {p ad : Nat} (h : SecAt K H a s p ad) : Fl K H a "alignment" (nv s.align) := by
  obtain ⟨dx, h⟩ := h
  exact ⟨_, dx, _, h, T.c_Section, T.n_Section_alignment, lk_at (ks := ["sort_of", "flags", "begin", "size", "linked", "info", "alignment", "entry", "place", "address"]) (i := 6) rfl (by decide +kernel) rfl⟩
theorem fl_Section_entry (T : Tx K mg) {H : Hp} {a : Addr} {s : Sn17.Sec} {p ad : Nat} (h : SecAt K H a s p ad) : Fl K H a "entry" (nv s.entry) := by
  obtain ⟨dx, h⟩ := h
  exact ⟨_, dx, _, h, T.c_Section, T.n_Section_entry, lk_at (ks := ["sort_of", "flags", "begin", "size", "linked", "info", "alignment", "entry", "place", "address"]) (i := 7) rfl (by decide +kernel) rfl⟩
theorem fl_Section_place (T : Tx K mg) {H : Hp} {a : Addr} {s : Sn17.Sec} {p ad : Nat} (h : SecAt K H a s p ad) : Fl K H a "place" (nv p) := by
  obtain ⟨dx, h⟩ := h
  exact ⟨_, dx, _, h, T.c_Section, T.n_Section_place, lk_at (ks := ["sort_of", "flags", "begin", "size", "linked", "info", "alignment", "entry", "place", "address"]) (i := 8) rfl (by decide +kernel) rfl⟩
theorem fl_Section_address (T : Tx K mg) {H : Hp} {a : Addr} {s : Sn17.Sec} {p ad : Nat} (h : SecAt K H a s p ad) : Fl K H a "address" (nv ad) := by
  obtain ⟨dx, h⟩ := h
  exact ⟨_, dx, _, h, T.c_Section, T.n_Section_address, lk_at (ks := ["sort_of", "flags", "begin", "size", "linked", "info", "alignment", "entry", "place", "address"]) (i := 9) rfl (by decide +kernel) rfl⟩
theorem hm_Section_has {H : Hp} {a : Addr} {s : Sn17.Sec} {p ad : Nat} (h : SecAt K H a s p ad) : HasM H a (C_Section K) "has" := by
  obtain ⟨dx, h⟩ := h
  exact ⟨dx, _, h, lk_no (ks := ["sort_of", "flags", "begin", "size", "linked", "info", "alignment", "entry", "place", "address"]) rfl (by decide +kernel)⟩
theorem hm_Section_is_loaded {H : Hp} {a : Addr} {s : Sn17.Sec} {p ad : Nat} (h : SecAt K H a s p ad) : HasM H a (C_Section K) "is_loaded" := by
  obtain ⟨dx, h⟩ := h
  exact ⟨dx, _, h, lk_no (ks := ["sort_of", "flags", "begin", "size", "linked", "info", "alignment", "entry", "place", "address"]) rfl (by decide +kernel)⟩
theorem hm_Section_class_of {H : Hp} {a : Addr} {s : Sn17.Sec} {p ad : Nat} (h : SecAt K H a s p ad) : HasM H a (C_Section K) "class_of" := by
  obtain ⟨dx, h⟩ := h
  exact ⟨dx, _, h, lk_no (ks := ["sort_of", "flags", "begin", "size", "linked", "info", "alignment", "entry", "place", "address"]) rfl (by decide +kernel)⟩
theorem fl_Symbol_binding (T : Tx K mg) {H : Hp} {a : Addr} {y : Sn17.Sym} (h : SymAt K H a y) : Fl K H a "binding" (nv y.bind) := by
  obtain ⟨dx, t, h, _⟩ := h
  exact ⟨_, dx, _, h, T.c_Symbol, T.n_Symbol_binding, lk_at (ks := ["name", "binding", "section", "value", "size"]) (i := 1) rfl (by decide +kernel) rfl⟩
theorem fl_Symbol_section (T : Tx K mg) {H : Hp} {a : Addr} {y : Sn17.Sym} (h : SymAt K H a y) : Fl K H a "section" (nv y.sec) := by
  obtain ⟨dx, t, h, _⟩ := h
  exact ⟨_, dx, _, h, T.c_Symbol, T.n_Symbol_section, lk_at (ks := ["name", "binding", "section", "value", "size"]) (i := 2) rfl (by decide +kernel) rfl⟩
theorem fl_Symbol_value (T : Tx K mg) {H : Hp} {a : Addr} {y : Sn17.Sym} (h : SymAt K H a y) : Fl K H a "value" (nv y.value) := by
  obtain ⟨dx, t, h, _⟩ := h
  exact ⟨_, dx, _, h, T.c_Symbol, T.n_Symbol_value, lk_at (ks := ["name", "binding", "section", "value", "size"]) (i := 3) rfl (by decide +kernel) rfl⟩
theorem fl_Symbol_size (T : Tx K mg) {H : Hp} {a : Addr} {y : Sn17.Sym} (h : SymAt K H a y) : Fl K H a "size" (nv y.size) := by
  obtain ⟨dx, t, h, _⟩ := h
  exact ⟨_, dx, _, h, T.c_Symbol, T.n_Symbol_size, lk_at (ks := ["name", "binding", "section", "value", "size"]) (i := 4) rfl (by decide +kernel) rfl⟩
theorem hm_Symbol_is_definition {H : Hp} {a : Addr} {y : Sn17.Sym} (h : SymAt K H a y) : HasM H a (C_Symbol K) "is_definition" := by
  obtain ⟨dx, t, h, _⟩ := h
  exact ⟨dx, _, h, lk_no (ks := ["name", "binding", "section", "value", "size"]) rfl (by decide +kernel)⟩
theorem fl_Relocation_section (T : Tx K mg) {H : Hp} {a : Addr} {r : Sn17.Rel} {c : Addr} (h : RelAt K H a r c) : Fl K H a "section" (.ref c) := by
  obtain ⟨dx, h⟩ := h
  exact ⟨_, dx, _, h, T.c_Relocation, T.n_Relocation_section, lk_at (ks := ["section", "offset", "kind", "symbol", "addend"]) (i := 0) rfl (by decide +kernel) rfl⟩
theorem fl_Relocation_offset (T : Tx K mg) {H : Hp} {a : Addr} {r : Sn17.Rel} {c : Addr} (h : RelAt K H a r c) : Fl K H a "offset" (nv r.offset) := by
  obtain ⟨dx, h⟩ := h
  exact ⟨_, dx, _, h, T.c_Relocation, T.n_Relocation_offset, lk_at (ks := ["section", "offset", "kind", "symbol", "addend"]) (i := 1) rfl (by decide +kernel) rfl⟩
theorem fl_Relocation_kind (T : Tx K mg) {H : Hp} {a : Addr} {r : Sn17.Rel} {c : Addr} (h : RelAt K H a r c) : Fl K H a "kind" (nv r.type) := by
  obtain ⟨dx, h⟩ := h
  exact ⟨_, dx, _, h, T.c_Relocation, T.n_Relocation_kind, lk_at (ks := ["section", "offset", "kind", "symbol", "addend"]) (i := 2) rfl (by decide +kernel) rfl⟩
theorem fl_Relocation_symbol (T : Tx K mg) {H : Hp} {a : Addr} {r : Sn17.Rel} {c : Addr} (h : RelAt K H a r c) : Fl K H a "symbol" (nv r.sym) := by
  obtain ⟨dx, h⟩ := h
  exact ⟨_, dx, _, h, T.c_Relocation, T.n_Relocation_symbol, lk_at (ks := ["section", "offset", "kind", "symbol", "addend"]) (i := 3) rfl (by decide +kernel) rfl⟩
theorem fl_Relocation_addend (T : Tx K mg) {H : Hp} {a : Addr} {r : Sn17.Rel} {c : Addr} (h : RelAt K H a r c) : Fl K H a "addend" (.int r.more) := by
  obtain ⟨dx, h⟩ := h
  exact ⟨_, dx, _, h, T.c_Relocation, T.n_Relocation_addend, lk_at (ks := ["section", "offset", "kind", "symbol", "addend"]) (i := 4) rfl (by decide +kernel) rfl⟩
theorem hm_Relocation_width {H : Hp} {a : Addr} {r : Sn17.Rel} {c : Addr} (h : RelAt K H a r c) : HasM H a (C_Relocation K) "width" := by
  obtain ⟨dx, h⟩ := h
  exact ⟨dx, _, h, lk_no (ks := ["section", "offset", "kind", "symbol", "addend"]) rfl (by decide +kernel)⟩
theorem nm_Symbol (T : Tx K mg) {y : Sn17.Sym} (h : SymAt K H a y) : ∃ t, Fl K H a "name" (.ref t) ∧ H t = some (.tup (iv y.name)) := by
  obtain ⟨dx, t, h, h2⟩ := h
  exact ⟨t, ⟨_, dx, _, h, T.c_Symbol, T.n_Symbol_name, lk_at (ks := ["name", "binding", "section", "value", "size"]) (i := 0) rfl (by decide +kernel) rfl⟩, h2⟩
end
end Lk

/-! # Plain law: numbers in bytes, powers, flags -/
namespace Mx
open Sn17
def fz (x n : Nat) : Nat := x + 256 * n
theorem foldr_z (l : List Nat) (z : Nat) : l.foldr fz z = l.foldr fz 0 + 256 ^ l.length * z := by
  induction l with
  | nil => simp
  | cons x r ih =>
    rw [List.foldr_cons, List.foldr_cons, ih, List.length_cons, Nat.pow_succ]
    unfold fz
    rw [Nat.mul_add, ← Nat.mul_assoc, Nat.mul_comm (256 ^ r.length) 256]
    omega
theorem num_eq (b : Bytes) (i k : Nat) : num b i k = ((b.drop i).take k).foldr fz 0 := rfl
theorem num_zero (b : Bytes) (i : Nat) : num b i 0 = 0 := by
  rw [num_eq, List.take_zero]
  rfl
theorem num_succ {b : Bytes} {i k x : Nat} (h : b[i + k]? = some x) : num b i (k + 1) = num b i k + x * 256 ^ k := by
  have hlt := (List.getElem?_eq_some_iff.mp h).1
  have h2 : (b.drop i)[k]? = some x := by rw [List.getElem?_drop]; exact h
  obtain ⟨h3, h4⟩ := List.getElem?_eq_some_iff.mp h2
  rw [num_eq, num_eq, List.take_succ_eq_append_getElem h3, List.foldr_append, foldr_z, List.length_take, Nat.min_eq_left (by omega), h4]
  simp only [List.foldr_cons, List.foldr_nil]
  unfold fz
  rw [Nat.mul_zero, Nat.add_zero, Nat.mul_comm]
theorem num_cut {b : Bytes} {p n i k : Nat} (h : i + k ≤ n) : num ((b.drop p).take n) i k = num b (p + i) k := by
  rw [num_eq, num_eq, List.drop_take, List.take_take, Nat.min_eq_left (by omega), List.drop_drop]
theorem num_lt {b : Bytes} (hb : ∀ x ∈ b, x < 256) (i k : Nat) : num b i k < 256 ^ k := by
  rw [num_eq]
  have h : ∀ l : List Nat, (∀ x ∈ l, x < 256) → l.foldr fz 0 < 256 ^ l.length := by
    intro l
    induction l with
    | nil => intro _; decide
    | cons x r ih =>
      intro hl
      have h1 := ih fun y hy => hl y (List.mem_cons_of_mem _ hy)
      have h2 := hl x List.mem_cons_self
      rw [List.foldr_cons, List.length_cons, Nat.pow_succ]
      show x + 256 * r.foldr fz 0 < 256 ^ r.length * 256
      omega
  have h1 := h ((b.drop i).take k) fun x hx => hb x (List.mem_of_mem_drop (List.mem_of_mem_take hx))
  have h2 : ((b.drop i).take k).length ≤ k := List.length_take_le ..
  exact Nat.lt_of_lt_of_le h1 (Nat.pow_le_pow_right (by decide) h2)
theorem secAt_cut {b : Bytes} {p : Nat} : secAt ((b.drop p).take 64) 0 = secAt b p := by
  unfold secAt four eight
  simp only [Nat.zero_add]
  rw [num_cut (by omega), num_cut (by omega), num_cut (by omega), num_cut (by omega), num_cut (by omega), num_cut (by omega), num_cut (by omega), num_cut (by omega)]
theorem pow8 (k : Nat) : 2 ^ (8 * k) = 256 ^ k := by
  rw [Nat.pow_mul]
/-- a power of two from 1 to 4096 -/
theorem powers_is2 : ∀ (a : Fin 65) (b : Fin 64), powers.contains (64 * a.val + b.val) = (((decide (1 ≤ 64 * a.val + b.val) && decide (64 * a.val + b.val ≤ 4096)) && decide (Nat.land (64 * a.val + b.val) (64 * a.val + b.val - 1) = 0))) := by decide +kernel
theorem powers_le {n : Nat} (h : powers.contains n = true) : 1 ≤ n ∧ n ≤ 4096 := by
  have h1 : n ∈ powers := by simpa using h
  have h2 : ∀ m ∈ powers, 1 ≤ m ∧ m ≤ 4096 := by decide
  exact h2 n h1
theorem powers_eq (n : Nat) : powers.contains n = ((decide (1 ≤ n) && decide (n ≤ 4096)) && decide (Nat.land n (n - 1) = 0)) := by
  by_cases h : n ≤ 4096
  · have h1 := powers_is2 ⟨n / 64, by omega⟩ ⟨n % 64, by omega⟩
    have e : 64 * (n / 64) + n % 64 = n := by omega
    simp only [e] at h1
    exact h1
  · rw [decide_eq_false h, Bool.and_false, Bool.false_and]
    cases e : powers.contains n with
    | false => rfl
    | true => exact absurd (powers_le e).2 h
/-- one bit -/
theorem land_bit (n k : Nat) : (Nat.land n (2 ^ k) != 0) = (n / 2 ^ k % 2 == 1) := by
  have e : Nat.land n (2 ^ k) = n &&& 2 ^ k := rfl
  have h : n.testBit k = decide (n / 2 ^ k % 2 = 1) := Nat.testBit_eq_decide_div_mod_eq
  rw [e]
  by_cases q : n / 2 ^ k % 2 = 1
  · have h1 : (n &&& 2 ^ k) ≠ 0 := fun z => by
      have t : (n &&& 2 ^ k).testBit k = true := by
        rw [Nat.testBit_and, h, Nat.testBit_two_pow]
        simp [q]
      rw [z, Nat.zero_testBit] at t
      cases t
    rw [bne_iff_ne.mpr h1, q]
    rfl
  · have h1 : (n &&& 2 ^ k) = 0 := by
      refine Nat.eq_of_testBit_eq fun i => ?_
      rw [Nat.testBit_and, Nat.testBit_two_pow, Nat.zero_testBit]
      by_cases z : k = i
      · subst z
        rw [h, decide_eq_false q]
        rfl
      · rw [decide_eq_false z, Bool.and_false]
    rw [h1, beq_eq_false_iff_ne.mpr q]
    rfl
end Mx

set_option Elab.async false
set_option linter.all false
set_option maxRecDepth 100000
set_option maxHeartbeats 4000000
/-! # The small defs: check, numbers, sections, symbols, relocations as they are read -/
namespace Lk
open PySem PySem.Spec PyProof.Rows L2 Evl He
section
variable {P : Program} {w : World} {K : PySem.W.Frag} {mg : Str → Option Value} {base : Heap}
/-! ### check -/
def spCheck (K : PySem.W.Frag) : Sp := fun vs H Q E => ∃ (b : Bool) (c : Int), vs = [.bl b, .int c] ∧ (b = true → Q .non H) ∧ (b = false → Err K E c)
theorem ok_check (T : Tx K mg) : Cal P w K mg base 4 "check" (spCheck K) := by
  obtain ⟨fd, F⟩ := T.d_check
  refine cal_of F T.g_check sc_check (fun vs H Q E h => ?_) (fun _ _ _ _ _ _ us hl => match us, hl with | [_, _], _ => rfl) (fun cdv A outer s H vs Q E hr h => ⟨_, (pss_one (ps_if (pt_not (pt_val (pv 0))) (pss_one (ps_raiseLow rfl T.low hr (takes_of rfl rfl rfl rfl) (pa_cons (pv 1) pa_nil))) pss_nil)), ?_⟩)
  · obtain ⟨b, c, rfl, _⟩ := h
    rfl
  · obtain ⟨b, c, rfl, h1, h2⟩ := h
    refine ⟨_, rfl, b, rfl, ?_⟩
    cases b with
    | true => exact h1 rfl
    | false => exact ⟨_, rfl, _, rfl, fun d hd => h2 rfl d _ upd_same⟩
/-! ### numbers in bytes -/
def spNum (K : PySem.W.Frag) : Sp := fun vs H Q _ => ∃ (a : Addr) (l : List Nat) (i k : Nat), vs = [.ref a, nv i, nv k] ∧ Rw K H a l ∧ i + k ≤ l.length ∧ k ≤ 8 ∧ RetV (nv (Sn17.num l i k)) H Q
theorem ok_number_at (T : Tx K mg) : Cal P w K mg base 1 "number_at" (spNum K) := by
  obtain ⟨fd, F⟩ := T.d_number_at
  refine cal_of F T.g_number_at sc_number_at (fun vs H Q E h => ?_) (fun _ _ _ _ _ _ us hl => match us, hl with | [_, _, _], _ => rfl) (fun cdv A outer s H vs Q E hr h => ⟨_, (pss_cons (ps_set (i := 3) sc_number_at.nd rfl (Or.inl rfl) pe_int)
      (pss_cons (ps_for (passes_of rfl) rfl (pi_range1 (by rfl) T.b_range (pa_cons (pv 2) pa_nil)) (pg_name (i := 4) sc_number_at.nd rfl (Or.inl rfl)) (pss_one (ps_aug (i := 3) sc_number_at.nd rfl (Or.inl rfl) (pe_op op_shl (pe_ix (ix_listK (K := K)) (pv 0) (pe_op op_add (pv 1) (pv 4)) (fun _ _ => rfl)) (pe_op op_mul pe_int (pv 4))) ip_add)))
      (pss_one (ps_ret (pv 3))))), ?_⟩)
  · obtain ⟨a, l, i, k, rfl, _⟩ := h
    rfl
  · obtain ⟨a, l, i, k, rfl, hR, hb, hk, q⟩ := h
    refine q_asg ev_c fun H1 e1 => ?_
    refine q_forR1 (n := (k : Int)) (ea_cons (ev_var rfl) ea_nil) ⟨by omega, by omega⟩ (fun j σ' H' => ∃ v, σ' = [some (.ref a), some (nv i), some (nv k), some (nv (Sn17.num l i j)), v] ∧ Ex H H') (fun H2 e2 => ⟨none, ?_, e1.trans e2⟩) ?_ ?_
    · rw [Mx.num_zero] <;> rfl
    · rintro j σ' H' hj ⟨v, rfl, e⟩
      have hlt : i + j < l.length := by omega
      have hx : l[i + j]? = some l[i + j] := List.getElem?_eq_getElem hlt
      have hs := hR.by_ _ (List.getElem_mem hlt)
      refine s_aug rfl (ev_shlN (ev_ixN (ev_var rfl) (ex_l e hR.sq) (ev_addN (ev_var rfl) (ev_var rfl)) hx) (ev_mulN (ev_kN 8) (ev_var rfl) (.inl (by decide))) (by omega) (by omega)) fun H2 e2 => ⟨some (nv j), ?_, e.trans e2⟩
      rw [Mx.num_succ hx, ← Mx.pow8]
      rfl
    · rintro σ' H' ⟨v, rfl, e⟩
      exact s_ret (ev_var rfl) fun H2 e2 => q H2 (e.trans e2)
theorem num_v {a : Addr} {l : List Nat} {H : Hp} (i k : Nat) (hR : Rw K H a l) (hb : i + k ≤ l.length) (hk : k ≤ 8 := by decide) : SpV (spNum K) [.ref a, nv i, nv k] H (nv (Sn17.num l i k)) :=
  fun H1 e Q q E => ⟨a, l, i, k, rfl, hR.mono e, hb, hk, q⟩
/-- number_at(row, i, k) -/
theorem ev_num {E : XK} {a : Addr} {l : List Nat} {H : Hp} {σ : L2.St} {tr ti tk : TE} (i k : Nat) (hR : Rw K H a l) (hb : i + k ≤ l.length) (h1 : Ev tr σ H (.ref a)) (h2 : Ev ti σ H (nv i)) (h3 : Ev tk σ H (nv k)) (hk : k ≤ 8 := by decide) :
    Ev (tCall (spNum K) [] E (tCons tr (tCons ti (tCons tk tNil)))) σ H (nv (Sn17.num l i k)) := ev_cal (ea_cons h1 (ea_cons h2 (ea_cons h3 ea_nil))) (num_v i k hR hb hk)
/-! ### a power of two -/
def spAlign : Sp := fun vs H Q _ => ∃ n : Nat, vs = [nv n] ∧ RetV (.bl (Sn17.powers.contains n)) H Q
theorem bitAnd_nat (a b : Nat) : Builtin.bitAnd (a : Int) (b : Int) = ((Nat.land a b : Nat) : Int) := rfl
theorem ok_is_alignment (T : Tx K mg) : Cal P w K mg base 1 "is_alignment" (spAlign) := by
  obtain ⟨fd, F⟩ := T.d_is_alignment
  refine cal_of F T.g_is_alignment sc_is_alignment (fun vs H Q E h => ?_) (fun _ _ _ _ _ _ us hl => match us, hl with | [_], _ => rfl) (fun cdv A outer s H vs Q E hr h => ⟨_, (pss_one (ps_ret (pe_and (pe_chain op_le op_le pe_int (pv 0) (pe_gi T.v_MOST_ALIGNMENT)) (pe_one (pe_cmpR op_eq (pe_op op_and (pv 0) (pe_op op_sub (pv 0) pe_int)) pe_int (nomark _)))))), ?_⟩)
  · obtain ⟨n, rfl, _⟩ := h
    rfl
  · obtain ⟨n, rfl, q⟩ := h
    refine s_ret (ev_is (ev_andV (a := decide (1 ≤ n) && decide (n ≤ 4096)) (b := decide (Nat.land n (n - 1) = 0)) (ev_chain (ev_kN 1) (ev_var rfl) (ev_kN 4096) (rv_D rv_I0 (by show V.bl _ = V.bl _; congr 1; exact decide_eq_decide.mpr (by omega))) (rv_D rv_I0 (by show V.bl _ = V.bl _; congr 1; exact decide_eq_decide.mpr (by omega)))) fun hn => ?_) (by rw [Mx.powers_eq])) fun H1 e => q H1 e
    have h1 : 1 ≤ n := by
      rw [Bool.and_eq_true] at hn
      exact of_decide_eq_true hn.1
    exact ev_eqN (ev_I0 (z := nv (Nat.land n (n - 1))) (ev_var rfl) (ev_subN (ev_var rfl) (ev_kN 1) h1) (by rw [bitAnd_nat])) (ev_kN 0)
/-! ### a section -/
def spSecInit (K : PySem.W.Frag) : Sp := fun vs H Q _ => ∃ (p dx a : Addr) (l : List Nat), vs = [.ref p, .ref a] ∧ H p = some (.ins (C_Section K) dx []) ∧ Rw K H a l ∧ l.length = 64 ∧ ∀ H', H' p = some (.ins (C_Section K) dx (secF (Sn17.secAt l 0) 0 0)) → Up p H H' → Q .non H'
theorem sec_put (v1 v2 v3 v4 v5 v6 v7 v8 : V) : putF "entry" v8 (putF "alignment" v7 (putF "info" v6 (putF "linked" v5 (putF "size" v4 (putF "begin" v3 (putF "flags" v2 (putF "sort_of" v1 []))))))) = ([("sort_of", v1), ("flags", v2), ("begin", v3), ("size", v4), ("linked", v5), ("info", v6), ("alignment", v7), ("entry", v8)] : List (Str × V)) := by rfl
theorem sec_put2 (v1 v2 v3 v4 v5 v6 v7 v8 z : V) : putF "alignment" z ([("sort_of", v1), ("flags", v2), ("begin", v3), ("size", v4), ("linked", v5), ("info", v6), ("alignment", v7), ("entry", v8)] : List (Str × V)) = ([("sort_of", v1), ("flags", v2), ("begin", v3), ("size", v4), ("linked", v5), ("info", v6), ("alignment", z), ("entry", v8)] : List (Str × V)) := by rfl
theorem sec_put3 (v1 v2 v3 v4 v5 v6 v7 v8 y z : V) : putF "address" z (putF "place" y ([("sort_of", v1), ("flags", v2), ("begin", v3), ("size", v4), ("linked", v5), ("info", v6), ("alignment", v7), ("entry", v8)] : List (Str × V))) = ([("sort_of", v1), ("flags", v2), ("begin", v3), ("size", v4), ("linked", v5), ("info", v6), ("alignment", v7), ("entry", v8), ("place", y), ("address", z)] : List (Str × V)) := by rfl
theorem ok_Section_init (T : Tx K mg) : Mak P w K mg base 2 "Section" (C_Section K) (spSecInit K) := by
  obtain ⟨fd, F⟩ := T.d_Section_init
  refine mak_of F T.k_Section T.g_Section sc_Section_init (fun vs H Q E h => ?_) (fun _ _ _ _ _ _ us hl => match us, hl with | [_, _], _ => rfl) (fun cdv A outer s H vs Q E hr h => ⟨_, (pss_cons (ps_fldK (K := K) (pv 0) (pe_cal (ok_number_at T) (hr.mono (by decide)) passL (pa_cons (pv 1) (pa_cons pe_int (pa_cons pe_int pa_nil)))))
      (pss_cons (ps_fldK (K := K) (pv 0) (pe_cal (ok_number_at T) (hr.mono (by decide)) passL (pa_cons (pv 1) (pa_cons pe_int (pa_cons pe_int pa_nil)))))
      (pss_cons (ps_fldK (K := K) (pv 0) (pe_cal (ok_number_at T) (hr.mono (by decide)) passL (pa_cons (pv 1) (pa_cons pe_int (pa_cons pe_int pa_nil)))))
      (pss_cons (ps_fldK (K := K) (pv 0) (pe_cal (ok_number_at T) (hr.mono (by decide)) passL (pa_cons (pv 1) (pa_cons pe_int (pa_cons pe_int pa_nil)))))
      (pss_cons (ps_fldK (K := K) (pv 0) (pe_cal (ok_number_at T) (hr.mono (by decide)) passL (pa_cons (pv 1) (pa_cons pe_int (pa_cons pe_int pa_nil)))))
      (pss_cons (ps_fldK (K := K) (pv 0) (pe_cal (ok_number_at T) (hr.mono (by decide)) passL (pa_cons (pv 1) (pa_cons pe_int (pa_cons pe_int pa_nil)))))
      (pss_cons (ps_fldK (K := K) (pv 0) (pe_cal (ok_number_at T) (hr.mono (by decide)) passL (pa_cons (pv 1) (pa_cons pe_int (pa_cons pe_int pa_nil)))))
      (pss_cons (ps_fldK (K := K) (pv 0) (pe_cal (ok_number_at T) (hr.mono (by decide)) passL (pa_cons (pv 1) (pa_cons pe_int (pa_cons pe_int pa_nil)))))
      (pss_cons (ps_if (pt_cmpR op_eq (pe_fldK (K := K) (pv 0)) pe_int (nomark _)) (pss_one (ps_fldK (K := K) (pv 0) pe_int)) pss_nil)
      (pss_cons (ps_fldK (K := K) (pv 0) pe_int)
      (pss_one (ps_fldK (K := K) (pv 0) pe_int)))))))))))), ?_⟩)
  · obtain ⟨p, dx, a, l, rfl, _⟩ := h
    rfl
  · obtain ⟨p, dx, a, l, rfl, hp, hR, hl, q⟩ := h
    have go : ∀ {D : Ends} {tz : TS} {f : Str} {n : Nat} (i k : Nat) {H1 : Hp} {fs : List (Str × V)} (_ : NoAttr K (C_Section K) f) (_ : fs.length = n) (_ : n < 100) (_ : H1 p = some (.ins (C_Section K) dx fs)) (_ : Up p H H1) (_ : i + k ≤ 64) (_ : k ≤ 8)
        (_ : ∀ H2, H2 p = some (.ins (C_Section K) dx (putF f (nv (Sn17.num l i k)) fs)) → Up p H H2 → tz D [some (.ref p), some (.ref a)] H2),
        tSeq (sFld K (tVar 0) (tCall (spNum K) [] E0 (tCons (tVar 1) (tCons (tC (.int (i : Int))) (tCons (tC (.int (k : Int))) tNil)))) f) tz D [some (.ref p), some (.ref a)] H1 := by
      intro D tz f n i k H1 fs hn hfl hlt h1 u1 hik hk kk
      have R1 : Rw K H1 a l := hR.up u1 hp
      exact q_fld (ev_num i k R1 (by omega) (ev_var rfl) ev_c ev_c hk) (ev_var rfl) h1 T.c_Section hn (by omega) fun H2 e2 => kk _ upd_same ((u1.trans (Up.ex e2)).upd)
    refine go 4 4 T.n_Section_sort_of (n := 0) rfl (by decide) hp (Up.refl _ _) (by decide) (by decide) fun H1 h1 u1 => ?_
    refine go 8 8 T.n_Section_flags (n := 1) rfl (by decide) h1 u1 (by decide) (by decide) fun H2 h2 u2 => ?_
    refine go 24 8 T.n_Section_begin (n := 2) rfl (by decide) h2 u2 (by decide) (by decide) fun H3 h3 u3 => ?_
    refine go 32 8 T.n_Section_size (n := 3) rfl (by decide) h3 u3 (by decide) (by decide) fun H4 h4 u4 => ?_
    refine go 40 4 T.n_Section_linked (n := 4) rfl (by decide) h4 u4 (by decide) (by decide) fun H5 h5 u5 => ?_
    refine go 44 4 T.n_Section_info (n := 5) rfl (by decide) h5 u5 (by decide) (by decide) fun H6 h6 u6 => ?_
    refine go 48 8 T.n_Section_alignment (n := 6) rfl (by decide) h6 u6 (by decide) (by decide) fun H7 h7 u7 => ?_
    refine go 56 8 T.n_Section_entry (n := 7) rfl (by decide) h7 u7 (by decide) (by decide) fun H8 h8 u8 => ?_
    rw [sec_put] at h8
    have fin : ∀ {n : Nat} {H9 : Hp}, n = (Sn17.secAt l 0).align → H9 p = some (.ins (C_Section K) dx [("sort_of", nv (Sn17.num l 4 4)), ("flags", nv (Sn17.num l 8 8)), ("begin", nv (Sn17.num l 24 8)), ("size", nv (Sn17.num l 32 8)), ("linked", nv (Sn17.num l 40 4)), ("info", nv (Sn17.num l 44 4)), ("alignment", nv n), ("entry", nv (Sn17.num l 56 8))]) → Up p H H9 →
        tSeq (sFld K (tVar 0) (tC (.int 0)) "place") (sFld K (tVar 0) (tC (.int 0)) "address") { nx := fun _ H' => Q .non H', rt := Q } [some (.ref p), some (.ref a)] H9 := by
      intro n H9 hn h9 u9
      refine q_fld ev_c (ev_var rfl) h9 T.c_Section T.n_Section_place (by show 8 < 1000; decide) fun Ha ea => ?_
      refine s_fld ev_c (ev_var rfl) upd_same T.c_Section T.n_Section_address (by show 9 < 1000; decide) fun Hb eb => ?_
      refine q _ ?_ ((((u9.trans (Up.ex ea)).upd).trans (Up.ex eb)).upd)
      rw [upd_same, sec_put3, hn]
      rfl
    refine q_when (et_eqN (a := Sn17.num l 48 8) (ev_fl (ev_var rfl) ⟨_, dx, _, h8, T.c_Section, T.n_Section_alignment, lk_at (ks := ["sort_of", "flags", "begin", "size", "linked", "info", "alignment", "entry"]) (i := 6) rfl (by decide +kernel) rfl⟩) (ev_kN 0)) (fun hz H9 e9 => ?_) (fun hz H9 e9 => ?_)
    · refine s_fld ev_c (ev_var rfl) (e9 _ _ h8) T.c_Section T.n_Section_alignment (by show 8 < 1000; decide) fun Ha ea => ?_
      refine fin (n := 1) ?_ ?_ (((u8.trans (Up.ex e9)).trans (Up.ex ea)).upd)
      · have z := of_decide_eq_true hz
        show 1 = max 1 (Sn17.eight l (0 + 48))
        unfold Sn17.eight
        rw [Nat.zero_add, z]
        rfl
      · rw [upd_same, sec_put2]
        rfl
    · refine fin (n := Sn17.num l 48 8) ?_ (e9 _ _ h8) (u8.trans (Up.ex e9))
      have z := of_decide_eq_false hz
      show _ = max 1 (Sn17.eight l (0 + 48))
      unfold Sn17.eight
      rw [Nat.zero_add]
      omega
/-- Section(row[..]): a new section -/
theorem sec_made {a : Addr} {l : List Nat} {H : Hp} (hR : Rw K H a l) (hl : l.length = 64) {x dx : Addr} (nx : H x = none) (nd : H dx = none) (ne : dx ≠ x) {R : Hp → Prop} {E : XK} (q : ∀ H', SecAt K H' x (Sn17.secAt l 0) 0 0 → Ex H H' → R H') :
    spSecInit K [.ref x, .ref a] (upd (upd H dx (.own x)) x (.ins (C_Section K) dx [])) (fun v H2 => v = .non ∧ R H2) E :=
  ⟨x, dx, a, l, rfl, upd_same, hR.mono fun b o e => by rw [upd_ne (ne_of_none e nx), upd_ne (ne_of_none e nd)]; exact e, hl, fun H' h' u => ⟨rfl, q H' ⟨dx, h'⟩ (Up.made nx nd u)⟩⟩
def spHas (K : PySem.W.Frag) : Sp := fun vs H Q _ => ∃ (a : Addr) (s : Sn17.Sec) (p ad f k : Nat), vs = [.ref a, nv f] ∧ SecAt K H a s p ad ∧ f = 2 ^ k ∧ RetV (.bl (s.flags / 2 ^ k % 2 == 1)) H Q
theorem ok_Section_has (T : Tx K mg) : Met P w K mg base 1 (C_Section K) "has" (spHas K) := by
  obtain ⟨fd, F⟩ := T.d_Section_has
  refine met_of F T.c_Section T.m_Section_has sc_Section_has (fun vs H Q E h => ?_) (fun _ _ _ _ _ _ us hl => match us, hl with | [_, _], _ => rfl) (fun cdv A outer s H vs Q E hr h => ⟨_, (pss_one (ps_ret (pe_cmpR op_ne (pe_op op_and (pe_fldK (K := K) (pv 0)) (pv 1)) pe_int (nomark _)))), ?_⟩)
  · obtain ⟨a, s, p, ad, f, k, rfl, _⟩ := h
    rfl
  · obtain ⟨a, s, p, ad, f, k, rfl, hS, rfl, q⟩ := h
    refine s_ret (ev_is (ev_neN (a := Nat.land s.flags (2 ^ k)) (ev_I0 (ev_fl (ev_var rfl) (fl_Section_flags T hS)) (ev_var rfl) (by rw [bitAnd_nat])) (ev_kN 0)) ?_) fun H1 e => q H1 e
    rw [← Mx.land_bit]
    first
      | done
      | (show V.bl (!decide _) = V.bl (_ != 0); congr 1)
theorem ev_has {E : XK} {a : Addr} {s : Sn17.Sec} {p ad : Nat} {H : Hp} {σ : L2.St} {ta tf : TE} (f k : Nat) (hS : SecAt K H a s p ad) (h1 : Ev ta σ H (.ref a)) (h2 : Ev tf σ H (nv f)) (hf : f = 2 ^ k := by rfl) :
    Ev (tMeth (C_Section K) "has" (spHas K) [] E ta (tCons tf tNil)) σ H (.bl (s.flags / 2 ^ k % 2 == 1)) :=
  ev_met h1 (hm_Section_has hS) (ea_cons h2 ea_nil) fun H1 e Q q E => ⟨a, s, p, ad, f, k, rfl, hS.mono e, hf, q⟩
def spLoaded (K : PySem.W.Frag) : Sp := fun vs H Q _ => ∃ (a : Addr) (s : Sn17.Sec) (p ad : Nat), vs = [.ref a] ∧ SecAt K H a s p ad ∧ RetV (.bl s.loads) H Q
theorem ok_Section_is_loaded (T : Tx K mg) : Met P w K mg base 2 (C_Section K) "is_loaded" (spLoaded K) := by
  obtain ⟨fd, F⟩ := T.d_Section_is_loaded
  refine met_of F T.c_Section T.m_Section_is_loaded sc_Section_is_loaded (fun vs H Q E h => ?_) (fun _ _ _ _ _ _ us hl => match us, hl with | [_], _ => rfl) (fun cdv A outer s H vs Q E hr h => ⟨_, (pss_one (ps_ret (pe_and (pe_met (ok_Section_has T) (hr.mono (by decide)) passL (pv 0) (pa_cons pe_int pa_nil)) (pe_one (pe_cmpR (op_inK (K := K)) (pe_fldK (K := K) (pv 0)) (pe_tup (pa_cons (pe_gi T.v_DATA) (pa_cons (pe_gi T.v_ZEROS) pa_nil))) (by rfl)))))), ?_⟩)
  · obtain ⟨a, s, p, ad, rfl, _⟩ := h
    rfl
  · obtain ⟨a, s, p, ad, rfl, hS, q⟩ := h
    refine s_ret (ev_is (ev_andV (ev_has 2 1 hS (ev_var rfl) (ev_kN 2)) fun _ => ev_inN (l := [1, 8]) (ev_fl (ev_var rfl) (fl_Section_sort_of T hS)) (ea_cons' (ev_kN 1) (ea_cons' (ev_kN 8) ea_nil')) (by decide)) ?_) fun H1 e => q H1 e
    show V.bl _ = V.bl (s.flags / 2 % 2 == 1 && (s.type == Sn17.PROGBITS || s.type == Sn17.NOBITS))
    congr 2
    show ([1, 8] : List Nat).contains s.type = (s.type == 1 || s.type == 8)
    simp only [List.contains_cons, List.contains_nil, Bool.or_false]
theorem ev_loaded {E : XK} {a : Addr} {s : Sn17.Sec} {p ad : Nat} {H : Hp} {σ : L2.St} {ta : TE} (hS : SecAt K H a s p ad) (h1 : Ev ta σ H (.ref a)) : Ev (tMeth (C_Section K) "is_loaded" (spLoaded K) [] E ta tNil) σ H (.bl s.loads) :=
  ev_met h1 (hm_Section_is_loaded hS) ea_nil fun H1 e Q q E => ⟨a, s, p, ad, rfl, hS.mono e, q⟩
def spClass (K : PySem.W.Frag) : Sp := fun vs H Q _ => ∃ (a : Addr) (s : Sn17.Sec) (p ad : Nat), vs = [.ref a] ∧ SecAt K H a s p ad ∧ RetV (nv (Sn17.classOf s)) H Q
theorem ok_Section_class_of (T : Tx K mg) : Met P w K mg base 2 (C_Section K) "class_of" (spClass K) := by
  obtain ⟨fd, F⟩ := T.d_Section_class_of
  refine met_of F T.c_Section T.m_Section_class_of sc_Section_class_of (fun vs H Q E h => ?_) (fun _ _ _ _ _ _ us hl => match us, hl with | [_], _ => rfl) (fun cdv A outer s H vs Q E hr h => ⟨_, (pss_cons (ps_if (pt_val (pe_met (ok_Section_has T) (hr.mono (by decide)) passL (pv 0) (pa_cons pe_int pa_nil))) (pss_one (ps_ret pe_int)) pss_nil)
      (pss_cons (ps_if (pt_not (pt_val (pe_met (ok_Section_has T) (hr.mono (by decide)) passL (pv 0) (pa_cons pe_int pa_nil)))) (pss_one (ps_ret pe_int)) pss_nil)
      (pss_one (ps_ret (pe_ifExp (pt_cmpR op_eq (pe_fldK (K := K) (pv 0)) (pe_gi T.v_ZEROS) (nomark _)) pe_int pe_int))))), ?_⟩)
  · obtain ⟨a, s, p, ad, rfl, _⟩ := h
    rfl
  · obtain ⟨a, s, p, ad, rfl, hS, q⟩ := h
    refine q_when (et_B (ev_has 4 2 hS (ev_var rfl) (ev_kN 4))) (fun hb H1 e1 => ?_) (fun hb H1 e1 => ?_)
    · refine s_ret (ev_kN 0) fun H2 e2 => ?_
      have z : Sn17.classOf s = 0 := by
        unfold Sn17.classOf
        exact if_pos (eq_of_beq hb)
      have q2 := q H2 (e1.trans e2)
      rw [z] at q2
      exact q2
    have hS1 := hS.mono e1
    have c1 : ¬ s.flags / 4 % 2 = 1 := beq_eq_false_iff_ne.mp hb
    refine q_when (et_not (et_B (ev_has 1 0 hS1 (ev_var rfl) (ev_kN 1)))) (fun hc H2 e2 => ?_) (fun hc H2 e2 => ?_)
    · refine s_ret (ev_kN 1) fun H3 e3 => ?_
      have z : Sn17.classOf s = 1 := by
        unfold Sn17.classOf
        rw [if_neg c1]
        have hc' : (s.flags / 1 % 2 == 1) = false := by simpa using hc
        have c2 := beq_eq_false_iff_ne.mp hc'
        rw [Nat.div_one] at c2
        exact if_pos (by omega)
      have q2 := q H3 ((e1.trans e2).trans e3)
      rw [z] at q2
      exact q2
    have hc' : (s.flags / 1 % 2 == 1) = true := by simpa using hc
    have c2 : s.flags % 2 = 1 := by
      have := eq_of_beq hc'
      rw [Nat.div_one] at this
      exact this
    refine s_ret (ev_ifs (et_eqN (ev_fl (ev_var rfl) (fl_Section_sort_of T (hS1.mono e2))) (ev_kN 8)) (fun _ => ev_kN 3) (fun _ => ev_kN 2)) fun H3 e3 => ?_
    have q2 := q H3 ((e1.trans e2).trans e3)
    have z : Sn17.classOf s = if s.type = 8 then 3 else 2 := by
      unfold Sn17.classOf
      rw [if_neg c1, if_neg (by omega)]
      rfl
    rw [z] at q2
    by_cases h8 : s.type = 8
    · rw [if_pos h8] at q2
      rw [if_pos (decide_eq_true h8)]
      exact q2
    · rw [if_neg h8] at q2
      rw [if_neg (by rw [decide_eq_false h8]; decide)]
      exact q2
theorem ev_class {E : XK} {a : Addr} {s : Sn17.Sec} {p ad : Nat} {H : Hp} {σ : L2.St} {ta : TE} (hS : SecAt K H a s p ad) (h1 : Ev ta σ H (.ref a)) : Ev (tMeth (C_Section K) "class_of" (spClass K) [] E ta tNil) σ H (nv (Sn17.classOf s)) :=
  ev_met h1 (hm_Section_class_of hS) ea_nil fun H1 e Q q E => ⟨a, s, p, ad, rfl, hS.mono e, q⟩
end
end Lk

/-! # Plain law: names, symbols, relocations -/
namespace Mx
open Sn17
theorem takeWhile_cut (l : List Nat) (n : Nat) (h : ∀ j, j < n → l[j]? ≠ some 0) (h2 : l[n]? = some 0 ∨ l.length ≤ n) : l.takeWhile (fun c => c != 0) = l.take n := by
  induction l generalizing n with
  | nil => simp
  | cons x r ih =>
    cases n with
    | zero =>
      rcases h2 with h2 | h2
      · have e : x = 0 := Option.some.inj h2
        subst e
        rw [List.takeWhile_cons]
        simp
      · simp at h2
    | succ n =>
      have hx : x ≠ 0 := fun e => h 0 (by omega) (by rw [e]; rfl)
      rw [List.takeWhile_cons, if_pos (by simpa using hx), List.take_succ_cons, ih n (fun j hj => h (j + 1) (by omega)) (by
        rcases h2 with h2 | h2
        · exact .inl h2
        · exact .inr (by rw [List.length_cons] at h2; omega))]
theorem text_some {l : List Nat} {i e : Nat} (hi : i ≤ e) (h : ∀ j, i ≤ j → j < e → l[j]? ≠ some 0) (he : l[e]? = some 0) : text l i = some ((l.drop i).take (e - i)) := by
  have hlt := (List.getElem?_eq_some_iff.mp he).1
  have t := takeWhile_cut (l.drop i) (e - i) (fun j hj => by
    rw [List.getElem?_drop]
    exact h (i + j) (by omega) (by omega)) (.inl (by
    rw [List.getElem?_drop]
    have : i + (e - i) = e := by omega
    rw [this]
    exact he))
  unfold text
  rw [t]
  have hl : ((l.drop i).take (e - i)).length = e - i := by rw [List.length_take, List.length_drop]; omega
  show (if i + ((l.drop i).take (e - i)).length < l.length then _ else _) = _
  rw [hl, if_pos (by omega)]
theorem text_none {l : List Nat} {i e : Nat} (hi : i ≤ e) (h : ∀ j, i ≤ j → j < e → l[j]? ≠ some 0) (he : l.length ≤ e) : text l i = none := by
  have t := takeWhile_cut (l.drop i) (e - i) (fun j hj => by
    rw [List.getElem?_drop]
    exact h (i + j) (by omega) (by omega)) (.inr (by rw [List.length_drop]; omega))
  unfold text
  rw [t]
  show (if i + ((l.drop i).take (e - i)).length < l.length then _ else _) = _
  rw [if_neg (by rw [List.length_take, List.length_drop]; omega)]
def symOf (l x : List Nat) : Sym := ⟨x, l.getD 4 0 / 16, two l 6, eight l 8, eight l 16⟩
def relOf (l : List Nat) (c : Nat) : Rel := ⟨c, eight l 0, four l 8, four l 12, long (eight l 16)⟩
theorem long_eq {n : Nat} (h : n < 2 ^ 64) : long n = if n / 2 ^ 63 = 1 then (n : Int) - 2 ^ 64 else (n : Int) := by
  unfold long
  by_cases q : n < 2 ^ 63
  · rw [if_pos q, if_neg (by omega)]
  · rw [if_neg q, if_pos (by omega)]
def widthOf (t : Nat) : Nat := if t = 0 then 0 else if t = 1 ∨ t = 24 then 8 else 4
theorem relSize_eq (t : Nat) : relSize t = if [0, 1, 2, 4, 10, 11, 24].contains t = true then some (widthOf t) else none := by
  unfold relSize widthOf
  by_cases h0 : t = 0
  · subst h0
    rfl
  · by_cases h1 : t = 1 ∨ t = 24
    · rcases h1 with rfl | rfl <;> rfl
    · by_cases h2 : t = 2 ∨ t = 4 ∨ t = 10 ∨ t = 11
      · rcases h2 with rfl | rfl | rfl | rfl <;> rfl
      · rw [if_neg h0, if_neg h1, if_neg h2, if_neg]
        simp only [List.contains_cons, List.contains_nil, Bool.or_false, Bool.or_eq_true, beq_iff_eq]
        omega
end Mx

set_option Elab.async false
set_option linter.all false
set_option maxRecDepth 100000
set_option maxHeartbeats 4000000
/-! # Symbols, relocations, names as they are read -/
namespace Lk
open PySem PySem.Spec PyProof.Rows L2 Evl He
section
variable {P : Program} {w : World} {K : PySem.W.Frag} {mg : Str → Option Value} {base : Heap}
def spSymInit (K : PySem.W.Frag) : Sp := fun vs H Q _ => ∃ (p dx a t : Addr) (l : List Nat), vs = [.ref p, .ref a, .ref t] ∧ H p = some (.ins (C_Symbol K) dx []) ∧ Rw K H a l ∧ l.length = 24 ∧ ∀ H', H' p = some (.ins (C_Symbol K) dx (symF t (Mx.symOf l []))) → Up p H H' → Q .non H'
theorem sym_put (v1 v2 v3 v4 v5 : V) : putF "size" v5 (putF "value" v4 (putF "section" v3 (putF "binding" v2 (putF "name" v1 [])))) = ([("name", v1), ("binding", v2), ("section", v3), ("value", v4), ("size", v5)] : List (Str × V)) := by rfl
theorem ok_Symbol_init (T : Tx K mg) : Mak P w K mg base 2 "Symbol" (C_Symbol K) (spSymInit K) := by
  obtain ⟨fd, F⟩ := T.d_Symbol_init
  refine mak_of F T.k_Symbol T.g_Symbol sc_Symbol_init (fun vs H Q E h => ?_) (fun _ _ _ _ _ _ us hl => match us, hl with | [_, _, _], _ => rfl) (fun cdv A outer s H vs Q E hr h => ⟨_, (pss_cons (ps_fldK (K := K) (pv 0) (pv 2))
      (pss_cons (ps_fldK (K := K) (pv 0) (pe_op op_shr (pe_ix (ix_listK (K := K)) (pv 1) pe_int (fun _ _ => rfl)) pe_int))
      (pss_cons (ps_fldK (K := K) (pv 0) (pe_cal (ok_number_at T) (hr.mono (by decide)) passL (pa_cons (pv 1) (pa_cons pe_int (pa_cons pe_int pa_nil)))))
      (pss_cons (ps_fldK (K := K) (pv 0) (pe_cal (ok_number_at T) (hr.mono (by decide)) passL (pa_cons (pv 1) (pa_cons pe_int (pa_cons pe_int pa_nil)))))
      (pss_one (ps_fldK (K := K) (pv 0) (pe_cal (ok_number_at T) (hr.mono (by decide)) passL (pa_cons (pv 1) (pa_cons pe_int (pa_cons pe_int pa_nil)))))))))), ?_⟩)
  · obtain ⟨p, dx, a, t, l, rfl, _⟩ := h
    rfl
  · obtain ⟨p, dx, a, t, l, rfl, hp, hR, hl, q⟩ := h
    refine q_fld (ev_var rfl) (ev_var rfl) hp T.c_Symbol T.n_Symbol_name (by decide) fun H1 e1 => ?_
    have u1 : Up p H (upd H1 p (.ins (C_Symbol K) dx (putF "name" (.ref t) []))) := (Up.ex e1).upd
    have R1 := hR.up u1 hp
    have h4 : l[4]? = some (l.getD 4 0) := by
      rw [List.getD_eq_getElem?_getD, List.getElem?_eq_getElem (by omega)]
      rfl
    refine q_fld (ev_shrN (ev_ixN (a := 4) (ev_var rfl) R1.sq (ev_kN 4) h4) (ev_kN 4)) (ev_var rfl) upd_same T.c_Symbol T.n_Symbol_binding (by show 1 < 1000; decide) fun H2 e2 => ?_
    have u2 := (u1.trans (Up.ex e2)).upd (o := .ins (C_Symbol K) dx (putF "binding" (nv (l.getD 4 0 / 2 ^ 4)) (putF "name" (.ref t) [])))
    have R2 := hR.up u2 hp
    refine q_fld (ev_num 6 2 R2 (by omega) (ev_var rfl) (ev_kN 6) (ev_kN 2)) (ev_var rfl) upd_same T.c_Symbol T.n_Symbol_section (by show 2 < 1000; decide) fun H3 e3 => ?_
    have u3 := (u2.trans (Up.ex e3)).upd (o := .ins (C_Symbol K) dx (putF "section" (nv (Sn17.num l 6 2)) (putF "binding" (nv (l.getD 4 0 / 2 ^ 4)) (putF "name" (.ref t) []))))
    have R3 := hR.up u3 hp
    refine q_fld (ev_num 8 8 R3 (by omega) (ev_var rfl) (ev_kN 8) (ev_kN 8)) (ev_var rfl) upd_same T.c_Symbol T.n_Symbol_value (by show 3 < 1000; decide) fun H4 e4 => ?_
    have u4 := (u3.trans (Up.ex e4)).upd (o := .ins (C_Symbol K) dx (putF "value" (nv (Sn17.num l 8 8)) (putF "section" (nv (Sn17.num l 6 2)) (putF "binding" (nv (l.getD 4 0 / 2 ^ 4)) (putF "name" (.ref t) [])))))
    have R4 := hR.up u4 hp
    refine s_fld (ev_num 16 8 R4 (by omega) (ev_var rfl) (ev_kN 16) (ev_kN 8)) (ev_var rfl) upd_same T.c_Symbol T.n_Symbol_size (by show 4 < 1000; decide) fun H5 e5 => ?_
    refine q _ ?_ ((u4.trans (Up.ex e5)).upd)
    rw [upd_same, sym_put]
    rfl
def spIsDef (K : PySem.W.Frag) : Sp := fun vs H Q _ => ∃ (a : Addr) (y : Sn17.Sym), vs = [.ref a] ∧ SymAt K H a y ∧ RetV (.bl (y.sec != 0 && y.sec != Sn17.COMMON)) H Q
theorem ok_Symbol_is_definition (T : Tx K mg) : Met P w K mg base 1 (C_Symbol K) "is_definition" (spIsDef K) := by
  obtain ⟨fd, F⟩ := T.d_Symbol_is_definition
  refine met_of F T.c_Symbol T.m_Symbol_is_definition sc_Symbol_is_definition (fun vs H Q E h => ?_) (fun _ _ _ _ _ _ us hl => match us, hl with | [_], _ => rfl) (fun cdv A outer s H vs Q E hr h => ⟨_, (pss_one (ps_ret (pe_cmpR (op_ninK (K := K)) (pe_fldK (K := K) (pv 0)) (pe_tup (pa_cons pe_int (pa_cons (pe_gi T.v_COMMON) pa_nil))) (by rfl)))), ?_⟩)
  · obtain ⟨a, y, rfl, _⟩ := h
    rfl
  · obtain ⟨a, y, rfl, hS, q⟩ := h
    refine s_ret (ev_is (ev_ninN (l := [0, 65522]) (ev_fl (ev_var rfl) (fl_Symbol_section T hS)) (ea_cons' (ev_kN 0) (ea_cons' (ev_kN 65522) ea_nil')) (by decide)) ?_) fun H1 e => q H1 e
    show V.bl (!([0, 65522] : List Nat).contains y.sec) = V.bl (!(y.sec == 0) && !(y.sec == 65522))
    rw [← Bool.not_or]
    congr 2
    simp only [List.contains_cons, List.contains_nil, Bool.or_false]
theorem ev_isdef {E : XK} {a : Addr} {y : Sn17.Sym} {H : Hp} {σ : L2.St} {ta : TE} (hS : SymAt K H a y) (h1 : Ev ta σ H (.ref a)) : Ev (tMeth (C_Symbol K) "is_definition" (spIsDef K) [] E ta tNil) σ H (.bl (y.sec != 0 && y.sec != Sn17.COMMON)) :=
  ev_met h1 (hm_Symbol_is_definition hS) ea_nil fun H1 e Q q E => ⟨a, y, rfl, hS.mono e, q⟩
def spRelInit (K : PySem.W.Frag) : Sp := fun vs H Q _ => ∃ (p dx a c : Addr) (l : List Nat), vs = [.ref p, .ref a, .ref c] ∧ H p = some (.ins (C_Relocation K) dx []) ∧ Rw K H a l ∧ l.length = 24 ∧ ∀ H', H' p = some (.ins (C_Relocation K) dx (relF c (Mx.relOf l 0))) → Up p H H' → Q .non H'
theorem rel_put (v1 v2 v3 v4 v5 : V) : putF "addend" v5 (putF "symbol" v4 (putF "kind" v3 (putF "offset" v2 (putF "section" v1 [])))) = ([("section", v1), ("offset", v2), ("kind", v3), ("symbol", v4), ("addend", v5)] : List (Str × V)) := by rfl
theorem ok_Relocation_init (T : Tx K mg) : Mak P w K mg base 2 "Relocation" (C_Relocation K) (spRelInit K) := by
  obtain ⟨fd, F⟩ := T.d_Relocation_init
  refine mak_of F T.k_Relocation T.g_Relocation sc_Relocation_init (fun vs H Q E h => ?_) (fun _ _ _ _ _ _ us hl => match us, hl with | [_, _, _], _ => rfl) (fun cdv A outer s H vs Q E hr h => ⟨_, (pss_cons (ps_fldK (K := K) (pv 0) (pv 2))
      (pss_cons (ps_fldK (K := K) (pv 0) (pe_cal (ok_number_at T) (hr.mono (by decide)) passL (pa_cons (pv 1) (pa_cons pe_int (pa_cons pe_int pa_nil)))))
      (pss_cons (ps_fldK (K := K) (pv 0) (pe_cal (ok_number_at T) (hr.mono (by decide)) passL (pa_cons (pv 1) (pa_cons pe_int (pa_cons pe_int pa_nil)))))
      (pss_cons (ps_fldK (K := K) (pv 0) (pe_cal (ok_number_at T) (hr.mono (by decide)) passL (pa_cons (pv 1) (pa_cons pe_int (pa_cons pe_int pa_nil)))))
      (pss_cons (ps_set (i := 3) sc_Relocation_init.nd rfl (Or.inl rfl) (pe_cal (ok_number_at T) (hr.mono (by decide)) passL (pa_cons (pv 1) (pa_cons pe_int (pa_cons pe_int pa_nil)))))
      (pss_one (ps_fldK (K := K) (pv 0) (pe_ifExp (pt_cmpR op_eq (pe_op op_shr (pv 3) pe_int) pe_int (nomark _)) (pe_op op_sub (pv 3) (pe_op op_shl pe_int pe_int)) (pv 3))))))))), ?_⟩)
  · obtain ⟨p, dx, a, c, l, rfl, _⟩ := h
    rfl
  · obtain ⟨p, dx, a, c, l, rfl, hp, hR, hl, q⟩ := h
    refine q_fld (ev_var rfl) (ev_var rfl) hp T.c_Relocation T.n_Relocation_section (by decide) fun H1 e1 => ?_
    have u1 : Up p H (upd H1 p (.ins (C_Relocation K) dx (putF "section" (.ref c) []))) := (Up.ex e1).upd
    have R1 := hR.up u1 hp
    refine q_fld (ev_num 0 8 R1 (by omega) (ev_var rfl) (ev_kN 0) (ev_kN 8)) (ev_var rfl) upd_same T.c_Relocation T.n_Relocation_offset (by show 1 < 1000; decide) fun H2 e2 => ?_
    have u2 := (u1.trans (Up.ex e2)).upd (o := .ins (C_Relocation K) dx (putF "offset" (nv (Sn17.num l 0 8)) (putF "section" (.ref c) [])))
    have R2 := hR.up u2 hp
    refine q_fld (ev_num 8 4 R2 (by omega) (ev_var rfl) (ev_kN 8) (ev_kN 4)) (ev_var rfl) upd_same T.c_Relocation T.n_Relocation_kind (by show 2 < 1000; decide) fun H3 e3 => ?_
    have u3 := (u2.trans (Up.ex e3)).upd (o := .ins (C_Relocation K) dx (putF "kind" (nv (Sn17.num l 8 4)) (putF "offset" (nv (Sn17.num l 0 8)) (putF "section" (.ref c) []))))
    have R3 := hR.up u3 hp
    refine q_fld (ev_num 12 4 R3 (by omega) (ev_var rfl) (ev_kN 12) (ev_kN 4)) (ev_var rfl) upd_same T.c_Relocation T.n_Relocation_symbol (by show 3 < 1000; decide) fun H4 e4 => ?_
    have u4 := (u3.trans (Up.ex e4)).upd (o := .ins (C_Relocation K) dx (putF "symbol" (nv (Sn17.num l 12 4)) (putF "kind" (nv (Sn17.num l 8 4)) (putF "offset" (nv (Sn17.num l 0 8)) (putF "section" (.ref c) [])))))
    have R4 := hR.up u4 hp
    refine q_asg (ev_num 16 8 R4 (by omega) (ev_var rfl) (ev_kN 16) (ev_kN 8)) fun H5 e5 => ?_
    refine s_fld (ev_is (ev_ifs (et_eqN (ev_shrN (ev_var rfl) (ev_kN 63)) (ev_kN 1)) (fun _ => ev_I0 (z := .int ((Sn17.num l 16 8 : Int) - 2 ^ 64)) (ev_var rfl) (ev_shlN (ev_kN 1) (ev_kN 64) (by decide) (by decide)) (by rfl)) (fun _ => ev_var rfl)) (w := .int (Sn17.long (Sn17.eight l 16))) ?_) (ev_var rfl) (e5 _ _ upd_same) T.c_Relocation T.n_Relocation_addend (by show 4 < 1000; decide) fun H6 e6 => ?_
    · show _ = V.int (Sn17.long (Sn17.num l 16 8))
      rw [Mx.long_eq (Mx.num_lt hR.by_ 16 8)]
      show _ = V.int (if Sn17.num l 16 8 / 2 ^ 63 = 1 then _ else _)
      by_cases z : Sn17.num l 16 8 / 2 ^ 63 = 1
      · rw [if_pos z, if_pos (decide_eq_true z)]
      · rw [if_neg z, if_neg (by rw [decide_eq_false z]; decide)]
    · refine q _ ?_ (((u4.trans (Up.ex e5)).trans (Up.ex e6)).upd)
      rw [upd_same, rel_put]
      rfl
def spWidth (K : PySem.W.Frag) : Sp := fun vs H Q _ => ∃ (a : Addr) (r : Sn17.Rel) (c : Addr), vs = [.ref a] ∧ RelAt K H a r c ∧ RetV (nv (Mx.widthOf r.type)) H Q
theorem ok_Relocation_width (T : Tx K mg) : Met P w K mg base 1 (C_Relocation K) "width" (spWidth K) := by
  obtain ⟨fd, F⟩ := T.d_Relocation_width
  refine met_of F T.c_Relocation T.m_Relocation_width sc_Relocation_width (fun vs H Q E h => ?_) (fun _ _ _ _ _ _ us hl => match us, hl with | [_], _ => rfl) (fun cdv A outer s H vs Q E hr h => ⟨_, (pss_one (ps_ret (pe_ifExp (pt_cmpR op_eq (pe_fldK (K := K) (pv 0)) pe_int (nomark _)) pe_int (pe_ifExp (pt_cmpR (op_inK (K := K)) (pe_fldK (K := K) (pv 0)) (pe_tup (pa_cons pe_int (pa_cons pe_int pa_nil))) (by rfl)) pe_int pe_int)))), ?_⟩)
  · obtain ⟨a, r, c, rfl, _⟩ := h
    rfl
  · obtain ⟨a, r, c, rfl, hS, q⟩ := h
    refine s_ret (ev_is (ev_ifs (et_eqN (ev_fl (ev_var rfl) (fl_Relocation_kind T hS)) (ev_kN 0)) (fun _ => ev_kN 0) (fun _ => ev_ifs (et_test (ev_inN (l := [1, 24]) (ev_fl (ev_var rfl) (fl_Relocation_kind T hS)) (ea_cons' (ev_kN 1) (ea_cons' (ev_kN 24) ea_nil')) (by decide))) (fun _ => ev_kN 8) (fun _ => ev_kN 4))) ?_) fun H1 e => q H1 e
    unfold Mx.widthOf
    by_cases h0 : r.type = 0
    · rw [if_pos (decide_eq_true h0), if_pos h0]
    · rw [if_neg (by rw [decide_eq_false h0]; decide), if_neg h0]
      by_cases h1 : r.type = 1 ∨ r.type = 24
      · rw [if_pos h1, if_pos]
        rcases h1 with z | z <;> (rw [z]; rfl)
      · rw [if_neg h1, if_neg]
        simp only [List.contains_cons, List.contains_nil, Bool.or_false, Bool.or_eq_true, beq_iff_eq]
        exact h1
theorem ev_width {E : XK} {a c : Addr} {r : Sn17.Rel} {H : Hp} {σ : L2.St} {ta : TE} (hS : RelAt K H a r c) (h1 : Ev ta σ H (.ref a)) : Ev (tMeth (C_Relocation K) "width" (spWidth K) [] E ta tNil) σ H (nv (Mx.widthOf r.type)) :=
  ev_met h1 (hm_Relocation_width hS) ea_nil fun H1 e Q q E => ⟨a, r, c, rfl, hS.mono e, q⟩
/-! ### the bytes of a section -/
def secBytes (b : List Nat) (s : Sn17.Sec) : List Nat := (b.drop s.offset).take s.size
def spBytes (K : PySem.W.Frag) : Sp := fun vs H Q _ => ∃ (a c : Addr) (b : List Nat) (s : Sn17.Sec) (p ad : Nat), vs = [.ref a, .ref c] ∧ Rw K H a b ∧ SecAt K H c s p ad ∧ RetL (iv (secBytes b s)) H Q
theorem ok_bytes_of (T : Tx K mg) : Cal P w K mg base 1 "bytes_of" (spBytes K) := by
  obtain ⟨fd, F⟩ := T.d_bytes_of
  refine cal_of F T.g_bytes_of sc_bytes_of (fun vs H Q E h => ?_) (fun _ _ _ _ _ _ us hl => match us, hl with | [_, _], _ => rfl) (fun cdv A outer s H vs Q E hr h => ⟨_, (pss_one (ps_ret (pe_slice (sl_listK (K := K)) (pv 0) (po_some (pe_fldK (K := K) (pv 1))) (po_some (pe_op op_add (pe_fldK (K := K) (pv 1)) (pe_fldK (K := K) (pv 1))))))), ?_⟩)
  · obtain ⟨a, c, b, s, p, ad, rfl, _⟩ := h
    rfl
  · obtain ⟨a, c, b, s, p, ad, rfl, hR, hS, q⟩ := h
    refine s_retL (el_sl (ev_var rfl) (eo_some (ev_fl (ev_var rfl) (fl_Section_begin T hS))) (eo_some (ev_addN (ev_fl (ev_var rfl) (fl_Section_begin T hS)) (ev_fl (ev_var rfl) (fl_Section_size T hS)))) hR.sq) fun p H1 hp e h1 => q p H1 hp e ?_
    rw [h1, iv_slice]
    have z : s.offset + s.size - s.offset = s.size := by omega
    rw [z]
    rfl
theorem el_bytes {E : XK} {a c : Addr} {b : List Nat} {s : Sn17.Sec} {p ad : Nat} {H : Hp} {σ : L2.St} {ta tc : TE} (hR : Rw K H a b) (hS : SecAt K H c s p ad) (h1 : Ev ta σ H (.ref a)) (h2 : Ev tc σ H (.ref c)) :
    EvL (tCall (spBytes K) [] E (tCons ta (tCons tc tNil))) σ H (iv (secBytes b s)) := el_call (ea_cons h1 (ea_cons h2 ea_nil)) fun H1 e Q q E => ⟨a, c, b, s, p, ad, rfl, hR.mono e, hS.mono e, q⟩
theorem rw_bytes {H H' : Hp} {a p : Addr} {b : List Nat} (s : Sn17.Sec) (hR : Rw K H a b) (h : H' p = some (.lst (iv (secBytes b s)))) : Rw K H' p (secBytes b s) :=
  ⟨SqL.of h, by have := hR.len; unfold secBytes; rw [List.length_take, List.length_drop]; omega, fun x hx => hR.by_ x (List.mem_of_mem_drop (List.mem_of_mem_take hx))⟩
/-! ### a name -/
def spNameAt (K : PySem.W.Frag) : Sp := fun vs H Q E => ∃ (a : Addr) (b : List Nat) (i : Nat), vs = [.ref a, nv i] ∧ Rw K H a b ∧ (∀ x, Sn17.text b i = some x → ∀ p H', H p = none → Ex H H' → H' p = some (.tup (iv x)) → Q (.ref p) H') ∧ (Sn17.text b i = none → Err K E (-3))
/-- check(..) as a statement -/
theorem q_check {E : XK} {σ : L2.St} {H : Hp} {ta tb : TE} {tz : TS} {D : Ends} {b : Bool} {c : Int} (h : Ev ta σ H (.bl b)) (hc : Ev tb σ H (.int c)) (kt : b = true → ∀ H1, Ex H H1 → tz D σ H1) (kf : b = false → Err K E c) :
    tSeq (tDrop (tCall (spCheck K) [] E (tCons ta (tCons tb tNil)))) tz D σ H := h H (Ex.refl H) _ fun H1 e1 => hc H1 e1 _ fun H2 e2 => ⟨b, c, rfl, fun hb => kt hb H2 (e1.trans e2), kf⟩
theorem e_check {E : XK} {σ : L2.St} {H : Hp} {ta tb : TE} {D : Ends} {b : Bool} {c : Int} (h : Ev ta σ H (.bl b)) (hc : Ev tb σ H (.int c)) (kt : b = true → ∀ H1, Ex H H1 → D.nx σ H1) (kf : b = false → Err K E c) :
    tDrop (tCall (spCheck K) [] E (tCons ta (tCons tb tNil))) D σ H := h H (Ex.refl H) _ fun H1 e1 => hc H1 e1 _ fun H2 e2 => ⟨b, c, rfl, fun hb => kt hb H2 (e1.trans e2), kf⟩
theorem ev_lenN' {σ : L2.St} {H : Hp} {ta : TE} {p : Addr} {l : List Nat} (ha : Ev ta σ H (.ref p)) (h : SqL K H p (iv l)) : Ev (tCB (rLenS K) (tCons ta tNil)) σ H (nv l.length) := ev_is (ev_len ha h) (by rw [iv_len])
theorem ok_name_at (T : Tx K mg) : Cal P w K mg base 5 "name_at" (spNameAt K) := by
  obtain ⟨fd, F⟩ := T.d_name_at
  refine cal_of F T.g_name_at sc_name_at (fun vs H Q E h => ?_) (fun _ _ _ _ _ _ us hl => match us, hl with | [_, _], _ => rfl) (fun cdv A outer s H vs Q E hr h => ⟨_, (pss_cons (ps_set (i := 2) sc_name_at.nd rfl (Or.inl rfl) (pv 1))
      (pss_cons (ps_while (passes_of rfl) (PW.pt (pw_and (pt_cmpR op_lt (pv 2) (pe_callB (call_lenK (K := K)) (by rfl) T.b_len PySem.boot_len (pa_cons (pv 0) pa_nil)) (nomark _)) (pw_and1 (pt_cmpR op_ne (pe_ix (ix_listK (K := K)) (pv 0) (pv 2) (fun _ _ => rfl)) pe_int (nomark _))))) (pss_one (ps_aug (i := 2) sc_name_at.nd rfl (Or.inl rfl) pe_int ip_add)))
      (pss_cons (ps_expr (pe_cal (ok_check T) (hr.mono (by decide)) (passes_call (takes_of rfl rfl rfl rfl) (fun _ _ _ _ h => h)) (pa_cons (pe_cmpR op_lt (pv 2) (pe_callB (call_lenK (K := K)) (by rfl) T.b_len PySem.boot_len (pa_cons (pv 0) pa_nil)) (nomark _)) (pa_cons (pe_un un_neg pe_int) pa_nil))))
      (pss_one (ps_ret (pe_callTy (call_tupleK (K := K)) (by rfl) T.b_tuple (by decide +kernel) (pa_cons (pe_slice (sl_listK (K := K)) (pv 0) (po_some (pv 1)) (po_some (pv 2))) pa_nil))))))), ?_⟩)
  · obtain ⟨a, b, i, rfl, _⟩ := h
    rfl
  · obtain ⟨a, b, i, rfl, hR, q1, q2⟩ := h
    refine q_asg (ev_var rfl) fun H1 e1 => ?_
    refine q_while (fun m σ' H' => ∃ e, σ' = [some (.ref a), some (nv i), some (nv e)] ∧ Ex H H' ∧ i ≤ e ∧ (∀ j, i ≤ j → j < e → b[j]? ≠ some 0) ∧ m = b.length - e) (b.length - i) ⟨i, rfl, e1, Nat.le_refl _, fun j h1 h2 => absurd h1 (by omega), rfl⟩ ?_
    rintro m σ' H' ⟨e, rfl, ee, hie, hj, rfl⟩
    have R := hR.mono ee
    refine ⟨decide (e < b.length) && !decide (b.getD e 0 = 0), et_and (et_test (ev_ltN (ev_var rfl) (ev_lenN' (ev_var rfl) R.sq))) (fun hlt => ?_), fun ht H2 e2 => ?_, fun ht H2 e2 => ?_⟩
    · have hl := of_decide_eq_true hlt
      exact et_neN (ev_ixN (ev_var rfl) R.sq (ev_var rfl) (by rw [List.getD_eq_getElem?_getD, List.getElem?_eq_getElem hl]; rfl)) (ev_kN 0)
    · rw [Bool.and_eq_true] at ht
      have hl := of_decide_eq_true ht.1
      have hn : ¬ b.getD e 0 = 0 := by simpa using ht.2
      refine ⟨fun σ2 H3 => ∃ m', m' < b.length - e ∧ ∃ e', σ2 = [some (.ref a), some (nv i), some (nv e')] ∧ Ex H H3 ∧ i ≤ e' ∧ (∀ j, i ≤ j → j < e' → b[j]? ≠ some 0) ∧ m' = b.length - e', fun _ _ z => z, ?_⟩
      refine s_aug rfl (ev_kN 1) fun H3 e3 => ⟨b.length - (e + 1), by omega, e + 1, rfl, (ee.trans e2).trans e3, by omega, fun j h1 h2 => ?_, rfl⟩
      by_cases z : j = e
      · subst z
        intro w0
        rw [List.getD_eq_getElem?_getD, w0] at hn
        exact hn rfl
      · exact hj j h1 (by omega)
    · have R2 := R.mono e2
      refine q_check (ev_ltN (ev_var rfl) (ev_lenN' (ev_var rfl) R2.sq)) (ev_neg (-3)) (fun hb H3 e3 => ?_) (fun hb => ?_)
      · have hl := of_decide_eq_true hb
        have h0 : b[e]? = some 0 := by
          rw [decide_eq_true hl, Bool.true_and] at ht
          have z : b.getD e 0 = 0 := by simpa using ht
          rw [List.getD_eq_getElem?_getD, List.getElem?_eq_getElem hl] at z
          rw [List.getElem?_eq_getElem hl]
          exact congrArg some z
        have tx := Mx.text_some hie hj h0
        refine (el_sl (ev_var rfl) (eo_some (ev_var rfl)) (eo_some (ev_var rfl)) (R2.mono e3).sq) H3 (Ex.refl H3) _ fun p1 H4 hp1 e4 h4 => ?_
        refine ⟨p1, _, rfl, .inl ⟨SqL.of h4, fun p hp => ?_⟩⟩
        refine q1 _ tx p _ ?_ (((((ee.trans e2).trans e3).trans e4)).trans (Ex.new hp)) ?_
        · exact fresh_back (((ee.trans e2).trans e3).trans e4) hp
        · rw [upd_same, iv_slice]
      · have hl := of_decide_eq_false hb
        exact q2 (Mx.text_none hie hj (by omega))
end
end Lk

/-! # Plain law: the section table in its parts -/
namespace Mx
open Sn17
def magic : List Nat := [127, 69, 76, 70, 2, 1, 1]
def secRaw (b : Bytes) : R (List Sec) :=
  if b.length < 64 ∨ b.take 7 ≠ [127, 69, 76, 70, 2, 1, 1] ∨ two b 52 ≠ 64 then .error .form
  else if two b 16 ≠ 1 ∨ two b 18 ≠ 62 then .error .kind
  else if two b 60 = 0 ∨ two b 58 ≠ 64 ∨ b.length < eight b 40 + 64 * two b 60 then .error .form
  else .ok ((List.range (two b 60)).map fun i => secAt b (eight b 40 + 64 * i))
def good1 (b : Bytes) (s : Sec) : Bool := s.within b && powers.contains s.align
def bad1 (s : Sec) : Bool := s.type == 9 || (s.loads && s.flags % 2 == 1 && s.flags / 4 % 2 == 1) || (s.flags / 1024 % 2 == 1) || (s.flags / 2 % 2 == 1 && !s.loads && s.type != 7)
def secOk (b : Bytes) (l : List Sec) : R Unit := if (l.all (good1 b)) = false then .error .form else if (l.any bad1) = true then .error .kind else .ok ()
theorem sections_eq (b : Bytes) : sections b = (secRaw b).bind fun l => (secOk b l).map fun _ => l := by
  unfold sections secRaw
  dsimp only
  by_cases h1 : b.length < 64 ∨ b.take 7 ≠ [127, 69, 76, 70, 2, 1, 1] ∨ two b 52 ≠ 64
  · rw [if_pos h1, if_pos h1]
    rfl
  · rw [if_neg h1, if_neg h1]
    by_cases h2 : two b 16 ≠ 1 ∨ two b 18 ≠ 62
    · rw [if_pos h2, if_pos h2]
      rfl
    · rw [if_neg h2, if_neg h2]
      by_cases h3 : two b 60 = 0 ∨ two b 58 ≠ 64 ∨ b.length < eight b 40 + 64 * two b 60
      · rw [if_pos h3, if_pos h3]
        rfl
      · rw [if_neg h3, if_neg h3]
        show _ = (secOk b _).map _
        unfold secOk
        generalize ((List.range (two b 60)).map fun i => secAt b (eight b 40 + 64 * i)) = l
        show (if (l.all (good1 b)) = false then _ else if (l.any bad1) = true then _ else _) = _
        by_cases h4 : l.all (good1 b) = false
        · rw [if_pos h4, if_pos h4]
          rfl
        · rw [if_neg h4, if_neg h4]
          by_cases h5 : l.any bad1 = true
          · rw [if_pos h5, if_pos h5]
            rfl
          · rw [if_neg h5, if_neg h5]
            rfl
theorem secOk_form {b : Bytes} {l : List Sec} {s : Sec} (hs : s ∈ l) (h : good1 b s = false) : secOk b l = .error .form := by
  unfold secOk
  rw [if_pos]
  cases e : l.all (good1 b) with
  | false => rfl
  | true =>
    rw [List.all_eq_true.mp e s hs] at h
    cases h
theorem secOk_kind {b : Bytes} {l : List Sec} {s : Sec} (hg : ∀ s ∈ l, good1 b s = true) (hs : s ∈ l) (h : bad1 s = true) : secOk b l = .error .kind := by
  unfold secOk
  rw [if_neg (by rw [List.all_eq_true.mpr hg]; decide), if_pos (List.any_eq_true.mpr ⟨s, hs, h⟩)]
theorem secOk_ok {b : Bytes} {l : List Sec} (hg : ∀ s ∈ l, good1 b s = true) (h : ∀ s ∈ l, bad1 s = false) : secOk b l = .ok () := by
  unfold secOk
  rw [if_neg (by rw [List.all_eq_true.mpr hg]; decide), if_neg]
  intro z
  obtain ⟨s, hs, q⟩ := List.any_eq_true.mp z
  rw [h s hs] at q
  cases q
theorem bad1_eq (s : Sec) : bad1 s = !((s.type != 9 && !(s.flags / 2 ^ 10 % 2 == 1)) && (!s.loads || (!(s.flags / 2 ^ 0 % 2 == 1) || !(s.flags / 2 ^ 2 % 2 == 1))) && (!(s.flags / 2 ^ 1 % 2 == 1) || [1, 7, 8].contains s.type)) := by
  have e0 : s.flags / 2 ^ 0 = s.flags := Nat.div_one _
  have e : ([1, 7, 8] : List Nat).contains s.type = (s.type == 1 || (s.type == 7 || s.type == 8)) := by
    simp only [List.contains_cons, List.contains_nil, Bool.or_false]
  rw [e0, e]
  unfold bad1 Sec.loads
  show (s.type == 9 || ((s.flags / 2 % 2 == 1 && (s.type == 1 || s.type == 8)) && s.flags % 2 == 1 && s.flags / 4 % 2 == 1) || s.flags / 1024 % 2 == 1 || (s.flags / 2 % 2 == 1 && !(s.flags / 2 % 2 == 1 && (s.type == 1 || s.type == 8)) && !(s.type == 7))) =
    !((!(s.type == 9) && !(s.flags / 1024 % 2 == 1)) && (!(s.flags / 2 % 2 == 1 && (s.type == 1 || s.type == 8)) || (!(s.flags % 2 == 1) || !(s.flags / 4 % 2 == 1))) && (!(s.flags / 2 % 2 == 1) || (s.type == 1 || (s.type == 7 || s.type == 8))))
  generalize (s.type == 9) = a
  generalize (s.flags / 2 % 2 == 1) = c
  generalize (s.type == 1) = d
  generalize (s.type == 8) = f
  generalize (s.type == 7) = g
  generalize (s.flags % 2 == 1) = i
  generalize (s.flags / 4 % 2 == 1) = j
  generalize (s.flags / 1024 % 2 == 1) = k
  cases a <;> cases c <;> cases d <;> cases f <;> cases g <;> cases i <;> cases j <;> cases k <;> rfl
/-! ### mapM of steps that may fail -/
theorem mapM_snoc {α β : Type} {f : α → R β} {l : List α} {x : α} {ys : List β} {y : β} (h : l.mapM f = .ok ys) (hx : f x = .ok y) : (l ++ [x]).mapM f = .ok (ys ++ [y]) := by
  rw [List.mapM_append, h]
  show (do let a ← Except.ok ys; let b ← [x].mapM f; pure (a ++ b)) = _
  simp [hx]
  rfl
theorem mapM_err {α β : Type} {f : α → R β} {pre post : List α} {x : α} {ys : List β} {e : Bad} (h : pre.mapM f = .ok ys) (hx : f x = .error e) : (pre ++ x :: post).mapM f = .error e := by
  rw [List.mapM_append, h]
  show (do let a ← Except.ok ys; let b ← (x :: post).mapM f; pure (a ++ b)) = _
  rw [List.mapM_cons, hx]
  rfl
theorem mapM_nil {α β : Type} {f : α → R β} : ([] : List α).mapM f = .ok [] := rfl
theorem mapM_len {α β : Type} {f : α → R β} : ∀ {l : List α} {ys : List β}, l.mapM f = .ok ys → ys.length = l.length
  | [], ys, h => by
    cases h
    rfl
  | x :: r, ys, h => by
    rw [List.mapM_cons] at h
    cases hx : f x with
    | error e =>
      rw [hx] at h
      cases h
    | ok y =>
      rw [hx] at h
      cases hr : r.mapM f with
      | error e =>
        rw [hr] at h
        cases h
      | ok zs =>
        rw [hr] at h
        have e : y :: zs = ys := Except.ok.inj h
        subst e
        have := mapM_len hr
        simp [this]
end Mx

set_option Elab.async false
set_option linter.all false
set_option maxRecDepth 100000
set_option maxHeartbeats 4000000
/-! # The section table -/
namespace Lk
open PySem PySem.Spec PyProof.Rows L2 Evl He
/-! ### lists of numbers compared -/
def pd (l : List Nat) : List PyData := l.map fun (n : Nat) => PyData.int (n : Int)
theorem pd_eqv : ∀ l r : List Nat, PyData.eqvAll (pd l) (pd r) = decide (l = r)
  | [], [] => by
    rw [decide_eq_true rfl]
    simp [pd, PyData.eqvAll]
  | [], _ :: _ => by simp [pd, PyData.eqvAll]
  | _ :: _, [] => by simp [pd, PyData.eqvAll]
  | a :: l, b :: r => by
    have ih := pd_eqv l r
    have e1 : pd (a :: l) = PyData.int (a : Int) :: pd l := rfl
    have e2 : pd (b :: r) = PyData.int (b : Int) :: pd r := rfl
    rw [e1, e2]
    simp only [PyData.eqvAll, PyData.eqv, ih]
    by_cases h : a = b
    · subst h
      by_cases h2 : l = r
      · subst h2
        simp
      · simp [h2]
    · have h' : ¬ (a : Int) = (b : Int) := by omega
      simp [h, h']
theorem pd_lay : ∀ l : List Nat, PyData.canLayAll0 (pd l) = true
  | [] => by simp [pd, PyData.canLayAll0]
  | a :: l => by
    have ih := pd_lay l
    have e1 : pd (a :: l) = PyData.int (a : Int) :: pd l := rfl
    rw [e1]
    simp only [PyData.canLayAll0, PyData.canLay0, ih, Bool.and_self]
theorem pd_depth : ∀ l : List Nat, PyData.depthAll (pd l) = 0
  | [] => by simp [pd, PyData.depthAll]
  | a :: l => by
    have ih := pd_depth l
    have e1 : pd (a :: l) = PyData.int (a : Int) :: pd l := rfl
    rw [e1]
    simp [PyData.depthAll, PyData.depth, ih]
theorem pd_shapedL (l : List Nat) : SeqAt.shaped (.list (pd l)) = true := by
  unfold SeqAt.shaped
  simp [PyData.canLay0, PyData.depth, pd_lay, pd_depth]
theorem pd_shapedT (l : List Nat) : SeqAt.shaped (.tuple (pd l)) = true := by
  unfold SeqAt.shaped
  simp [PyData.canLay0, PyData.depth, pd_lay, pd_depth]
theorem dp_iv {K : PySem.W.Frag} {H : Hp} : ∀ l : List Nat, DpAll K H (iv l) (pd l)
  | [] => .nil
  | a :: l => .cons (.int _) (dp_iv l)
theorem rv_eqL {K : PySem.W.Frag} {H : Hp} {p q : Addr} {l r : List Nat} (hp : SqL K H p (iv l)) (hq : SqL K H q (iv r)) : RV (rEqD K) (.ref p) (.ref q) H (.bl (decide (l = r))) := fun H1 e Q k =>
  ⟨.list (pd l), .list (pd r), .lst (ex_l e hp) (dp_iv l), .lst (ex_l e hq) (dp_iv r), pd_shapedL l, pd_shapedL r, by
    simp only [PyData.eqv, pd_eqv]
    exact k H1 (Ex.refl H1)⟩
theorem rv_neT {K : PySem.W.Frag} {H : Hp} {p q : Addr} {l r : List Nat} (hp : SqT K H p (iv l)) (hq : SqT K H q (iv r)) : RV (rNeD K) (.ref p) (.ref q) H (.bl (!decide (l = r))) := fun H1 e Q k =>
  ⟨.tuple (pd l), .tuple (pd r), .tup (ex_t e hp) (dp_iv l), .tup (ex_t e hq) (dp_iv r), pd_shapedT l, pd_shapedT r, by
    simp only [PyData.eqv, pd_eqv]
    exact k H1 (Ex.refl H1)⟩
theorem cutV_to (l : List Nat) (k : Nat) : cutV (iv l) none (some (k : Int)) = iv (l.take k) := by
  have h := iv_slice l 0 k
  rw [List.drop_zero, Nat.sub_zero] at h
  rw [← h]
  unfold cutV
  rw [sIx_nat, sIx_nat]
  have e : HT.sIx (iv l).length 0 none = 0 := rfl
  rw [e, Nat.zero_min]
section
variable {P : Program} {w : World} {K : PySem.W.Frag} {mg : Str → Option Value} {base : Heap}
/-- a, b = x, y by a tuple that is made -/
theorem q_tup2 {σ : L2.St} {H : Hp} {te : TE} {x y : V} {i j : Nat} {D : Ends} {tz : TS} (h : EvU te σ H [x, y]) (k : ∀ H1, Ex H H1 → tz D ((σ.set i (some x)).set j (some y)) H1) :
    tSeq (tAsg te (gTup K 2 (gCons (gName i) (gCons (gName j) gNil)))) tz D σ H :=
  h H (Ex.refl H) _ fun p H1 hp e h1 => ⟨p, _, rfl, SqT.of h1, rfl, x, [y], rfl, y, [], rfl, rfl, k H1 e⟩
def ErrR {α : Type} (K : PySem.W.Frag) (E : XK) (r : Sn17.R α) : Prop := ∀ e, r = .error e → Err K E e.code
abbrev rf (z : Addr × α) : V := .ref z.1
/-- the sections of an object as they are made: the list p, its items, all of them new -/
structure SecsNew (K : PySem.W.Frag) (H H' : Hp) (p : Addr) (zs : List (Addr × Sn17.Sec)) : Prop where
  new : H p = none
  ex : Ex H H'
  at_ : H' p = some (.lst (zs.map fun z => V.ref z.1))
  nd : (zs.map (·.1)).Nodup
  fr : ∀ z ∈ zs, H z.1 = none
  sec : ∀ z ∈ zs, SecAt K H' z.1 z.2 0 0
def spSecs (K : PySem.W.Frag) : Sp := fun vs H Q E => ∃ (a : Addr) (b : List Nat), vs = [.ref a] ∧ Rw K H a b ∧
  (∀ l, Mx.secRaw b = .ok l → ∀ p zs H', SecsNew K H H' p zs → zs.map (·.2) = l → Q (.ref p) H') ∧ ErrR K E (Mx.secRaw b)
theorem ok_sections_of (T : Tx K mg) : Cal P w K mg base 6 "sections_of" (spSecs K) := by
  obtain ⟨fd, F⟩ := T.d_sections_of
  refine cal_of F T.g_sections_of sc_sections_of (fun vs H Q E h => ?_) (fun _ _ _ _ _ _ us hl => match us, hl with | [_], _ => rfl) (fun cdv A outer s H vs Q E hr h => ⟨_, (pss_cons (ps_expr (pe_cal (ok_check T) (hr.mono (by decide)) (passes_call (takes_of rfl rfl rfl rfl) (fun _ _ _ _ h => h)) (pa_cons (pe_and (pe_cmpR op_ge (pe_callB (call_lenK (K := K)) (by rfl) T.b_len PySem.boot_len (pa_cons (pv 0) pa_nil)) pe_int (nomark _)) (pe_and (pe_cmpR (op_eqDK (K := K) hr.units) (pe_slice (sl_listK (K := K)) (pv 0) po_none (po_some pe_int)) (pe_gr T.g_MAGIC) (nomark _)) (pe_one (pe_cmpR op_eq (pe_cal (ok_number_at T) (hr.mono (by decide)) passL (pa_cons (pv 0) (pa_cons pe_int (pa_cons pe_int pa_nil)))) pe_int (nomark _))))) (pa_cons (pe_un un_neg pe_int) pa_nil))))
      (pss_cons (ps_expr (pe_cal (ok_check T) (hr.mono (by decide)) (passes_call (takes_of rfl rfl rfl rfl) (fun _ _ _ _ h => h)) (pa_cons (pe_and (pe_cmpR op_eq (pe_cal (ok_number_at T) (hr.mono (by decide)) passL (pa_cons (pv 0) (pa_cons pe_int (pa_cons pe_int pa_nil)))) pe_int (nomark _)) (pe_one (pe_cmpR op_eq (pe_cal (ok_number_at T) (hr.mono (by decide)) passL (pa_cons (pv 0) (pa_cons pe_int (pa_cons pe_int pa_nil)))) pe_int (nomark _)))) (pa_cons (pe_un un_neg pe_int) pa_nil))))
      (pss_cons (ps_asg (pe_tup (pa_cons (pe_cal (ok_number_at T) (hr.mono (by decide)) passL (pa_cons (pv 0) (pa_cons pe_int (pa_cons pe_int pa_nil)))) (pa_cons (pe_cal (ok_number_at T) (hr.mono (by decide)) passL (pa_cons (pv 0) (pa_cons pe_int (pa_cons pe_int pa_nil)))) pa_nil))) (pg_tupK (K := K) rfl (pgs_cons (pg_name (i := 1) sc_sections_of.nd rfl (Or.inl rfl)) (pgs_cons (pg_name (i := 2) sc_sections_of.nd rfl (Or.inr rfl)) pgs_nil))))
      (pss_cons (ps_expr (pe_cal (ok_check T) (hr.mono (by decide)) (passes_call (takes_of rfl rfl rfl rfl) (fun _ _ _ _ h => h)) (pa_cons (pe_and (pe_cmpR op_gt (pv 1) pe_int (nomark _)) (pe_and (pe_cmpR op_eq (pe_cal (ok_number_at T) (hr.mono (by decide)) passL (pa_cons (pv 0) (pa_cons pe_int (pa_cons pe_int pa_nil)))) pe_int (nomark _)) (pe_one (pe_cmpR op_le (pe_op op_add (pv 2) (pe_op op_mul pe_int (pv 1))) (pe_callB (call_lenK (K := K)) (by rfl) T.b_len PySem.boot_len (pa_cons (pv 0) pa_nil)) (nomark _))))) (pa_cons (pe_un un_neg pe_int) pa_nil))))
      (pss_one (ps_ret (pe_lc (own := [("at", 3)]) (g := gName 3) rfl sc_sections_of.nd (pi_range1 (by rfl) T.b_range (pa_cons (pv 1) pa_nil)) (blkOk_by (own := [("at", 3)]) (N := ["row", "many", "begin", "at"]) (sc := defScope s_sections_of) (by decide +kernel)) (fun _ _ _ _ _ => pg_name (i := 3) sc_sections_of.nd rfl (Or.inl rfl)) (fun _ _ _ _ _ => pts_nil) (fun _ _ _ _ _ => (pe_mak (ok_Section_init T) (hr.mono (by decide)) passL (pa_cons (pe_slice (sl_listK (K := K)) (pv 0) (po_some (pe_op op_add (pv 2) (pe_op op_mul pe_int (pv 3)))) (po_some (pe_op op_add (pe_op op_add (pv 2) (pe_op op_mul pe_int (pv 3))) pe_int))) pa_nil)))))))))), ?_⟩)
  · obtain ⟨a, b, rfl, _⟩ := h
    rfl
  · obtain ⟨a, b, rfl, hR, q1, q2⟩ := h
    have bad : ∀ {A B C : Prop} [Decidable A] [Decidable B] [Decidable C], (decide A && (decide B && decide C)) = false → ¬ A ∨ ¬ B ∨ ¬ C := by
      intro A B C _ _ _ z
      by_cases hA : A
      · by_cases hB : B
        · by_cases hC : C
          · simp [hA, hB, hC] at z
          · exact .inr (.inr hC)
        · exact .inr (.inl hB)
      · exact .inl hA
    have good : ∀ {A B C : Prop} [Decidable A] [Decidable B] [Decidable C], (decide A && (decide B && decide C)) = true → A ∧ B ∧ C := by
      intro A B C _ _ _ z
      simpa using z
    -- the first check
    refine q_check (b := decide (64 ≤ b.length) && (decide (b.take 7 = Mx.magic) && decide (Sn17.two b 52 = 64))) (ev_andV (ev_geN (ev_lenN' (ev_var rfl) hR.sq) (ev_kN 64)) fun h1 => ev_andV (ev_opL1 (xs := iv (b.take 7)) (by
        rw [← cutV_to]
        exact el_sl (ev_var rfl) eo_none (eo_some (ev_kN 7)) hR.sq) (fun H1 e1 => ev_c) (fun p H1 hp e1 => rv_eqL (SqL.of hp) (T.t_MAGIC H1))) fun h2 => ev_eqN (ev_num 52 2 hR (by have := of_decide_eq_true h1; omega) (ev_var rfl) (ev_kN 52) (ev_kN 2)) (ev_kN 64)) (ev_neg (-3)) (fun hb H1 e1 => ?_) (fun hb => ?_)
    rotate_left
    · refine q2 .form ?_
      unfold Mx.secRaw
      rw [if_pos]
      rcases bad hb with z | z | z
      · exact .inl (by omega)
      · exact .inr (.inl z)
      · exact .inr (.inr z)
    obtain ⟨g1, g2, g3⟩ := good hb
    have c1 : ¬ (b.length < 64 ∨ b.take 7 ≠ [127, 69, 76, 70, 2, 1, 1] ∨ Sn17.two b 52 ≠ 64) := by
      rintro (z | z | z)
      · omega
      · exact z g2
      · exact z g3
    have R1 := hR.mono e1
    -- the second
    refine q_check (b := decide (Sn17.two b 16 = 1) && decide (Sn17.two b 18 = 62)) (ev_andV (ev_eqN (ev_num 16 2 R1 (by omega) (ev_var rfl) (ev_kN 16) (ev_kN 2)) (ev_kN 1)) fun _ => ev_eqN (ev_num 18 2 R1 (by omega) (ev_var rfl) (ev_kN 18) (ev_kN 2)) (ev_kN 62)) (ev_neg (-4)) (fun hb2 H2 e2 => ?_) (fun hb2 => ?_)
    rotate_left
    · refine q2 .kind ?_
      unfold Mx.secRaw
      rw [if_neg c1, if_pos]
      by_cases z : Sn17.two b 16 = 1
      · refine .inr fun z2 => ?_
        simp [z, z2] at hb2
      · exact .inl z
    have c2 : ¬ (Sn17.two b 16 ≠ 1 ∨ Sn17.two b 18 ≠ 62) := by
      rw [Bool.and_eq_true] at hb2
      have z1 := of_decide_eq_true hb2.1
      have z2 := of_decide_eq_true hb2.2
      omega
    have R2 := R1.mono e2
    -- many, begin
    refine q_tup2 (x := nv (Sn17.two b 60)) (y := nv (Sn17.eight b 40)) (eu_tup (ea_cons (ev_num 60 2 R2 (by omega) (ev_var rfl) (ev_kN 60) (ev_kN 2)) (ea_cons (ev_num 40 8 R2 (by omega) (ev_var rfl) (ev_kN 40) (ev_kN 8)) ea_nil)) (by show 2 ≤ 100000; decide)) fun H3 e3 => ?_
    have R3 := R2.mono e3
    -- the third
    refine q_check (b := decide (0 < Sn17.two b 60) && (decide (Sn17.two b 58 = 64) && decide (Sn17.eight b 40 + 64 * Sn17.two b 60 ≤ b.length))) (ev_andV (ev_gtN (ev_var rfl) (ev_kN 0)) fun _ => ev_andV (ev_eqN (ev_num 58 2 R3 (by omega) (ev_var rfl) (ev_kN 58) (ev_kN 2)) (ev_kN 64)) fun _ => ev_leN (ev_addN (ev_var rfl) (ev_mulN (ev_kN 64) (ev_var rfl) (.inl (by decide)))) (ev_lenN' (ev_var rfl) R3.sq)) (ev_neg (-3)) (fun hb3 H4 e4 => ?_) (fun hb3 => ?_)
    rotate_left
    · refine q2 .form ?_
      unfold Mx.secRaw
      rw [if_neg c1, if_neg c2, if_pos]
      rcases bad hb3 with z | z | z
      · exact .inl (by omega)
      · exact .inr (.inl z)
      · exact .inr (.inr (by omega))
    obtain ⟨g4, g5, g6⟩ := good hb3
    have c3 : ¬ (Sn17.two b 60 = 0 ∨ Sn17.two b 58 ≠ 64 ∨ b.length < Sn17.eight b 40 + 64 * Sn17.two b 60) := by
      rintro (z | z | z)
      · omega
      · exact z g5
      · omega
    have hraw : Mx.secRaw b = .ok ((List.range (Sn17.two b 60)).map fun i => Sn17.secAt b (Sn17.eight b 40 + 64 * i)) := by
      unfold Mx.secRaw
      rw [if_neg c1, if_neg c2, if_neg c3]
    have eH4 : Ex H H4 := ((e1.trans e2).trans e3).trans e4
    have hlen := hR.len
    generalize hn : Sn17.two b 60 = n at *
    generalize hg : Sn17.eight b 40 = g at *
    -- the sections
    refine ⟨_, rfl, (n : Int), rfl, by omega, by omega, fun D hD => ?_⟩
    refine lc_range (lo := 0) (n := n) (fun i H' => ∃ zs : List (Addr × Sn17.Sec), SecsNew K H4 H' D zs ∧ zs.map (·.2) = (List.range i).map fun i => Sn17.secAt b (g + 64 * i)) ⟨[], ⟨hD, Ex.new hD, upd_same, List.nodup_nil, (fun z hz => nomatch hz), (fun z hz => nomatch hz)⟩, rfl⟩ ?_ ?_
    · rintro i H' hi ⟨zs, S, hz⟩
      refine ⟨rfl, ?_⟩
      have Rr := (hR.mono eH4).mono S.ex
      have e0 : V.int ((0 : Int) + (i : Int)) = nv i := by rw [Int.zero_add]
      rw [e0]
      refine (el_sl (a := a) (lo := some ((g + 64 * i : Nat) : Int)) (hi := some ((g + 64 * i + 64 : Nat) : Int)) (ev_var rfl) (eo_some (ev_addN (ev_var rfl) (ev_mulN (ev_kN 64) (ev_var rfl) (.inl (by decide))))) (eo_some (ev_addN (ev_addN (ev_var rfl) (ev_mulN (ev_kN 64) (ev_var rfl) (.inl (by decide)))) (ev_kN 64))) Rr.sq) H' (Ex.refl H') _ fun r H1 hr f1 h1 => ?_
      rw [iv_slice, show g + 64 * i + 64 - (g + 64 * i) = 64 by omega] at h1
      have Rq : Rw K H1 r ((b.drop (g + 64 * i)).take 64) := ⟨SqL.of h1, by rw [List.length_take]; omega, fun x hx => hR.by_ x (List.mem_of_mem_drop (List.mem_of_mem_take hx))⟩
      have hl64 : ((b.drop (g + 64 * i)).take 64).length = 64 := by
        rw [List.length_take, List.length_drop]
        have : g + 64 * i + 64 ≤ b.length := by omega
        omega
      intro x dx nx nd ne
      refine sec_made Rq hl64 nx nd ne fun H2 S2 f2 => ?_
      rw [Mx.secAt_cut] at S2
      have nx' : H' x = none := fresh_back f1 nx
      have nx4 : H4 x = none := fresh_back S.ex nx'
      have at2 : H2 D = some (.lst (zs.map fun z => V.ref z.1)) := f2 _ _ (f1 _ _ S.at_)
      have exx : Ex H4 (upd H2 D (.lst (zs.map (fun z => V.ref z.1) ++ [.ref x]))) := Ex.mut (S.ex.trans (f1.trans f2)) hD
      refine ⟨_, at2, ?_, zs ++ [(x, Sn17.secAt b (g + 64 * i))], ⟨hD, exx, ?_, ?_, ?_, ?_⟩, ?_⟩
      · have : zs.length = i := by
          have z := congrArg List.length hz
          simpa using z
        rw [List.length_map, sizeLine_eq]
        omega
      · rw [upd_same, List.map_append]
        rfl
      · rw [List.map_append, List.nodup_append]
        refine ⟨S.nd, by simp, fun c hc d hd => ?_⟩
        have hd' : d = x := by simpa using hd
        subst hd'
        intro z
        subst z
        obtain ⟨y, hy, e⟩ := List.mem_map.mp hc
        obtain ⟨dy, hy2⟩ := S.sec y hy
        rw [e, nx'] at hy2
        cases hy2
      · intro z hzm
        rcases List.mem_append.mp hzm with m | m
        · exact S.fr z m
        · have e : z = (x, Sn17.secAt b (g + 64 * i)) := by simpa using m
          subst e
          exact nx4
      · intro z hzm
        have nD : ∀ {c : Addr} {s : Sn17.Sec}, SecAt K H2 c s 0 0 → SecAt K (upd H2 D (.lst (zs.map (fun z => V.ref z.1) ++ [.ref x]))) c s 0 0 := fun {c s} ⟨dc, hc⟩ => ⟨dc, by rw [upd_ne (ne_of hc at2 (fun z => nomatch z))]; exact hc⟩
        rcases List.mem_append.mp hzm with m | m
        · exact nD ((S.sec z m).mono (f1.trans f2))
        · have e : z = (x, Sn17.secAt b (g + 64 * i)) := by simpa using m
          subst e
          exact nD S2
      · rw [List.map_append, hz, List.range_succ, List.map_append]
        rfl
    · rintro H' ⟨zs, S, hz⟩
      exact q1 _ hraw D zs H' ⟨fresh_back eH4 S.new, eH4.trans S.ex, S.at_, S.nd, fun z m => fresh_back eH4 (S.fr z m), S.sec⟩ hz
end
end Lk

/-! # Plain law: symbols and relocations, step by step -/
namespace Mx
open Sn17
def cutOf (b : Bytes) (s : Sec) : Bytes := (b.drop s.offset).take s.size
def symOk (n i : Nat) (y : Sym) : R Unit :=
  if 2 < y.bind then .error .kind
  else if n ≤ y.sec ∧ y.sec ≠ ABS ∧ y.sec ≠ COMMON then .error .form
  else if y.sec = COMMON ∧ powers.contains y.value = false then .error .form
  else if (y.bind ≠ 0 ∧ y.name = []) ∨ (y.bind = 0 ∧ y.sec = 0 ∧ i ≠ 0) ∨ (y.bind = 0 ∧ y.sec = COMMON) then .error .form
  else .ok ()
def ent (e : Bytes) (i : Nat) : Bytes := (e.drop (24 * i)).take 24
/-- one symbol, by its entry -/
def symStep (n : Nat) (names e : Bytes) (i : Nat) : R Sym := match text names (num (ent e i) 0 4) with
  | none => .error .form
  | some x => (symOk n i (symOf (ent e i) x)).map fun _ => symOf (ent e i) x
def symTab (b : Bytes) (secs : List Sec) (t : Sec) : R (List Sym) := match secs[t.link]? with
  | none => .error .form
  | some s => if s.type ≠ STRTAB ∨ t.entry ≠ 24 ∨ t.size % 24 ≠ 0 then .error .form else (List.range (t.size / 24)).mapM (symStep secs.length (cutOf b s) (cutOf b t))
theorem mapM_congr {α β : Type} {f g : α → R β} : ∀ {l : List α}, (∀ x ∈ l, f x = g x) → l.mapM f = l.mapM g
  | [], _ => rfl
  | x :: r, h => by
    rw [List.mapM_cons, List.mapM_cons, h x List.mem_cons_self, mapM_congr fun y hy => h y (List.mem_cons_of_mem _ hy)]
theorem num_ent {b : Bytes} {t : Sec} {i j k : Nat} (hj : j + k ≤ 24) (hi : 24 * i + 24 ≤ t.size) : num (ent (cutOf b t) i) j k = num b (t.offset + 24 * i + j) k := by
  unfold ent cutOf
  rw [num_cut hj, num_cut (by omega), Nat.add_assoc]
theorem getD_ent {b : Bytes} {t : Sec} {i j : Nat} (hj : j < 24) (hi : 24 * i + 24 ≤ t.size) : (ent (cutOf b t) i).getD j 0 = b.getD (t.offset + 24 * i + j) 0 := by
  unfold ent cutOf
  rw [List.getD_eq_getElem?_getD, List.getD_eq_getElem?_getD, List.getElem?_take, if_pos hj, List.getElem?_drop, List.getElem?_take, if_pos (by omega), List.getElem?_drop, Nat.add_assoc]
theorem div_mul24 {n i : Nat} (h : i < n / 24) : 24 * i + 24 ≤ n := by omega
theorem symTab_eq (b : Bytes) (secs : List Sec) (t : Sec) : symbols b secs t = symTab b secs t := by
  unfold symbols symTab
  cases secs[t.link]? with
  | none => rfl
  | some s =>
    dsimp only
    by_cases h : s.type ≠ STRTAB ∨ t.entry ≠ 24 ∨ t.size % 24 ≠ 0
    · rw [if_pos h, if_pos h]
    · rw [if_neg h, if_neg h]
      refine mapM_congr fun i hi => ?_
      have hi' := div_mul24 (List.mem_range.mp hi)
      unfold symStep
      have e0 : num (ent (cutOf b t) i) 0 4 = four b (t.offset + 24 * i) := num_ent (by omega) hi'
      rw [e0]
      show (match text (cutOf b s) (four b (t.offset + 24 * i)) with | none => _ | some x => _) = _
      cases text (cutOf b s) (four b (t.offset + 24 * i)) with
      | none => rfl
      | some x =>
        have e1 : symOf (ent (cutOf b t) i) x = ⟨x, b.getD (t.offset + 24 * i + 4) 0 / 16, two b (t.offset + 24 * i + 6), eight b (t.offset + 24 * i + 8), eight b (t.offset + 24 * i + 16)⟩ := by
          unfold symOf two eight
          rw [getD_ent (by omega) hi', num_ent (by omega) hi', num_ent (by omega) hi', num_ent (by omega) hi']
        dsimp only
        rw [e1]
        unfold symOk
        dsimp only
        split
        · rfl
        · split
          · rfl
          · split
            · rfl
            · split
              · rfl
              · rfl
def symRaw (b : Bytes) (secs : List Sec) : R (List Sym) := match secs.filter fun s => decide (s.type = 2) with
  | [t] => symTab b secs t
  | _ => .error .form
/-- one relocation, by its entry; n symbols, s the section to which it applies, its number c -/
def relStep (n c : Nat) (s : Sec) (e : Bytes) (i : Nat) : R Rel :=
  let r := relOf (ent e i) c
  if [0, 1, 2, 4, 10, 11, 24].contains r.type = false then .error .kind
  else if n ≤ r.sym ∨ s.type = 8 then .error .form
  else if s.size < r.offset + widthOf r.type then .error .form
  else .ok r
def relTab (b : Bytes) (secs : List Sec) (n table : Nat) (t : Sec) : R (List Rel) := match secs[t.info]? with
  | none => .error .form
  | some s => if t.link ≠ table ∨ t.entry ≠ 24 ∨ t.size % 24 ≠ 0 then .error .form else (List.range (if s.loads = true then t.size / 24 else 0)).mapM (relStep n t.info s (cutOf b t))
theorem relTab_eq (b : Bytes) (secs : List Sec) (n table : Nat) (t : Sec) : places b secs n table t = relTab b secs n table t := by
  unfold places relTab
  cases secs[t.info]? with
  | none => rfl
  | some s =>
    dsimp only
    by_cases h : t.link ≠ table ∨ t.entry ≠ 24 ∨ t.size % 24 ≠ 0
    · rw [if_pos h, if_pos h]
    · rw [if_neg h, if_neg h]
      cases hl : s.loads with
      | false => rfl
      | true =>
        rw [if_neg (by decide), if_pos rfl]
        refine mapM_congr fun i hi => ?_
        have hi' := div_mul24 (List.mem_range.mp hi)
        unfold relStep
        have e1 : relOf (ent (cutOf b t) i) t.info = ⟨t.info, eight b (t.offset + 24 * i), four b (t.offset + 24 * i + 8), four b (t.offset + 24 * i + 12), long (eight b (t.offset + 24 * i + 16))⟩ := by
          unfold relOf eight four
          rw [num_ent (by omega) hi', num_ent (by omega) hi', num_ent (by omega) hi', num_ent (by omega) hi']
          rfl
        rw [e1]
        dsimp only
        rw [relSize_eq]
        cases hc : ([0, 1, 2, 4, 10, 11, 24] : List Nat).contains (four b (t.offset + 24 * i + 8)) with
        | false => rfl
        | true =>
          rw [if_pos rfl, if_neg (by decide)]
          dsimp only
          by_cases h1 : n ≤ four b (t.offset + 24 * i + 12) ∨ s.type = 8
          · rw [if_pos h1, if_pos]
            rcases h1 with z | z
            · exact .inl z
            · exact .inr (.inl z)
          · rw [if_neg h1]
            by_cases h2 : s.size < eight b (t.offset + 24 * i) + widthOf (four b (t.offset + 24 * i + 8))
            · rw [if_pos h2, if_pos (.inr (.inr h2))]
            · rw [if_neg h2, if_neg]
              rintro (z | z | z)
              · exact h1 (.inl z)
              · exact h1 (.inr z)
              · exact h2 z
/-- the section table is the only one of its kind: its number -/
theorem only_one {secs : List Sec} {t : Sec} (h : (secs.filter fun s => decide (s.type = 2)) = [t]) : ∃ k, secs.zipIdx.filter (fun x => x.1.type == SYMTAB) = [(t, k)] ∧ secs[k]? = some t ∧ ∀ j, (∃ s : Sec, secs[j]? = some s ∧ s.type = 2) ↔ j = k := by
  have key : ∀ (l : List Sec) (n : Nat), (l.filter fun s => decide (s.type = 2)) = [] → (l.zipIdx n).filter (fun x => x.1.type == SYMTAB) = [] ∧ ∀ (j : Nat) (s : Sec), l[j]? = some s → s.type ≠ 2 := by
    intro l
    induction l with
    | nil => intro n _; exact ⟨rfl, fun j s h => by simp at h⟩
    | cons x r ih =>
      intro n hx
      rw [List.filter_cons] at hx
      by_cases e : x.type = 2
      · rw [if_pos (by simpa using e)] at hx
        cases hx
      · rw [if_neg (by simpa using e)] at hx
        obtain ⟨a1, a2⟩ := ih (n + 1) hx
        refine ⟨?_, fun j s hj => ?_⟩
        · rw [List.zipIdx_cons, List.filter_cons, if_neg (by simpa [SYMTAB] using e)]
          exact a1
        · cases j with
          | zero =>
            have : x = s := Option.some.inj hj
            rw [← this]
            exact e
          | succ j => exact a2 j s hj
  have main : ∀ (l : List Sec) (n : Nat), (l.filter fun s => decide (s.type = 2)) = [t] → ∃ k, (l.zipIdx n).filter (fun x => x.1.type == SYMTAB) = [(t, n + k)] ∧ l[k]? = some t ∧ ∀ j, (∃ s : Sec, l[j]? = some s ∧ s.type = 2) ↔ j = k := by
    intro l
    induction l with
    | nil => intro n hx; cases hx
    | cons x r ih =>
      intro n hx
      rw [List.filter_cons] at hx
      by_cases e : x.type = 2
      · rw [if_pos (by simpa using e)] at hx
        obtain ⟨rfl, hr⟩ := List.cons.inj hx
        obtain ⟨a1, a2⟩ := key r (n + 1) hr
        refine ⟨0, ?_, rfl, fun j => ⟨fun ⟨s, h1, h2⟩ => ?_, fun h => ?_⟩⟩
        · rw [List.zipIdx_cons, List.filter_cons, if_pos (by simpa [SYMTAB] using e), a1]
          rfl
        · cases j with
          | zero => rfl
          | succ j => exact absurd h2 (a2 j s h1)
        · subst h
          exact ⟨x, rfl, e⟩
      · rw [if_neg (by simpa using e)] at hx
        obtain ⟨k, a1, a2, a3⟩ := ih (n + 1) hx
        refine ⟨k + 1, ?_, a2, fun j => ⟨fun ⟨s, h1, h2⟩ => ?_, fun h => ?_⟩⟩
        · rw [List.zipIdx_cons, List.filter_cons, if_neg (by simpa [SYMTAB] using e), a1, show n + 1 + k = n + (k + 1) by omega]
        · cases j with
          | zero =>
            have : x = s := Option.some.inj h1
            rw [← this] at h2
            exact absurd h2 e
          | succ j =>
            have := (a3 j).mp ⟨s, h1, h2⟩
            omega
        · subst h
          obtain ⟨s, h1, h2⟩ := (a3 k).mpr rfl
          exact ⟨s, h1, h2⟩
  obtain ⟨k, h1, h2, h3⟩ := main secs 0 h
  rw [Nat.zero_add] at h1
  exact ⟨k, h1, h2, h3⟩
theorem not_one {secs : List Sec} (h : ∀ t, (secs.filter fun s => decide (s.type = 2)) ≠ [t]) : ∀ t, secs.zipIdx.filter (fun x => x.1.type == SYMTAB) ≠ [t] := by
  intro t ht
  have e : (secs.zipIdx.filter (fun x => x.1.type == SYMTAB)).map (·.1) = secs.filter fun s => decide (s.type = 2) := by
    have key : ∀ (l : List Sec) (n : Nat), ((l.zipIdx n).filter (fun x => x.1.type == SYMTAB)).map (·.1) = l.filter fun s => decide (s.type = 2) := by
      intro l
      induction l with
      | nil => intro n; rfl
      | cons x r ih =>
        intro n
        rw [List.zipIdx_cons, List.filter_cons, List.filter_cons]
        by_cases e : x.type = 2
        · rw [if_pos (by simpa [SYMTAB] using e), if_pos (by simpa using e), List.map_cons, ih]
        · rw [if_neg (by simpa [SYMTAB] using e), if_neg (by simpa using e), ih]
    exact key secs 0
  rw [ht] at e
  exact h _ e.symm
/-- an object, in the order of the program -/
def objRaw (b : Bytes) : R Obj := (secRaw b).bind fun secs => (secOk b secs).bind fun _ => (symRaw b secs).bind fun syms => match secs.zipIdx.filter fun x => x.1.type == SYMTAB with
  | [t] => ((secs.filter fun s => s.type == RELA).mapM (relTab b secs syms.length t.2)).map fun l => ⟨secs, syms, l.flatten, b⟩
  | _ => .error .form
theorem object_eq (b : Bytes) : object b = objRaw b := by
  unfold object objRaw
  rw [sections_eq]
  cases secRaw b with
  | error e => rfl
  | ok secs =>
    show ((secOk b secs).map fun _ => secs).bind _ = (secOk b secs).bind _
    cases secOk b secs with
    | error e => rfl
    | ok u =>
      show (match secs.zipIdx.filter fun x => x.1.type == SYMTAB with | [t] => _ | _ => _) = (symRaw b secs).bind _
      by_cases h : ∃ t, (secs.filter fun s => decide (s.type = 2)) = [t]
      · obtain ⟨t, ht⟩ := h
        obtain ⟨k, h1, h2, h3⟩ := only_one ht
        unfold symRaw
        rw [ht, h1]
        show (symbols b secs t).bind _ = (symTab b secs t).bind _
        rw [symTab_eq]
        cases symTab b secs t with
        | error e => rfl
        | ok syms =>
          show ((secs.filter fun s => s.type == RELA).mapM (places b secs syms.length k)).map _ = ((secs.filter fun s => s.type == RELA).mapM (relTab b secs syms.length k)).map _
          rw [mapM_congr (g := relTab b secs syms.length k) fun x _ => relTab_eq b secs _ _ x]
      · have h' : ∀ t, (secs.filter fun s => decide (s.type = 2)) ≠ [t] := fun t ht => h ⟨t, ht⟩
        have n1 := not_one h'
        have e1 : symRaw b secs = .error .form := by
          unfold symRaw
          split
          · rename_i t ht
            exact absurd ht (h' t)
          · rfl
        rw [e1]
        split
        · rename_i t ht
          exact absurd ht (n1 t)
        · rfl
end Mx

set_option Elab.async false
set_option linter.all false
set_option maxRecDepth 100000
set_option maxHeartbeats 4000000
/-! # Sections checked, symbols read -/
namespace Lk
open PySem PySem.Spec PyProof.Rows L2 Evl He
section
variable {P : Program} {w : World} {K : PySem.W.Frag} {mg : Str → Option Value} {base : Heap}
theorem ev_align {E : XK} {n : Nat} {H : Hp} {σ : L2.St} {ta : TE} (h1 : Ev ta σ H (nv n)) : Ev (tCall spAlign [] E (tCons ta tNil)) σ H (.bl (Sn17.powers.contains n)) :=
  ev_cal (ea_cons h1 ea_nil) fun H1 e Q q E => ⟨n, rfl, q⟩
def zsL (zs : List (Addr × Sn17.Sec)) : List V := zs.map fun z => V.ref z.1
def spChk (K : PySem.W.Frag) : Sp := fun vs H Q E => ∃ (a l : Addr) (b : List Nat) (zs : List (Addr × Sn17.Sec)), vs = [.ref a, .ref l] ∧ Rw K H a b ∧ SqL K H l (zsL zs) ∧ (∀ z ∈ zs, SecAt K H z.1 z.2 0 0) ∧
  (Mx.secOk b (zs.map (·.2)) = .ok () → RetV .non H Q) ∧ ErrR K E (Mx.secOk b (zs.map (·.2)))
theorem ok_check_sections (T : Tx K mg) : Cal P w K mg base 6 "check_sections" (spChk K) := by
  obtain ⟨fd, F⟩ := T.d_check_sections
  refine cal_of F T.g_check_sections sc_check_sections (fun vs H Q E h => ?_) (fun _ _ _ _ _ _ us hl => match us, hl with | [_, _], _ => rfl) (fun cdv A outer s H vs Q E hr h => ⟨_, (pss_cons (ps_for (passes_of rfl) rfl (pi_listK (K := K) (pv 1)) (pg_name (i := 2) sc_check_sections.nd rfl (Or.inl rfl)) (pss_cons (ps_expr (pe_cal (ok_check T) (hr.mono (by decide)) (passes_call (takes_of rfl rfl rfl rfl) (fun _ _ _ _ h => h)) (pa_cons (pe_or (pe_cmpR op_eq (pe_fldK (K := K) (pv 2)) (pe_gi T.v_ZEROS) (nomark _)) (pe_one (pe_cmpR op_le (pe_op op_add (pe_fldK (K := K) (pv 2)) (pe_fldK (K := K) (pv 2))) (pe_callB (call_lenK (K := K)) (by rfl) T.b_len PySem.boot_len (pa_cons (pv 0) pa_nil)) (nomark _)))) (pa_cons (pe_un un_neg pe_int) pa_nil))))
      (pss_one (ps_expr (pe_cal (ok_check T) (hr.mono (by decide)) (passes_call (takes_of rfl rfl rfl rfl) (fun _ _ _ _ h => h)) (pa_cons (pe_cal (ok_is_alignment T) (hr.mono (by decide)) passL (pa_cons (pe_fldK (K := K) (pv 2)) pa_nil)) (pa_cons (pe_un un_neg pe_int) pa_nil)))))))
      (pss_one (ps_for (passes_of rfl) rfl (pi_listK (K := K) (pv 1)) (pg_name (i := 2) sc_check_sections.nd rfl (Or.inl rfl)) (pss_cons (ps_expr (pe_cal (ok_check T) (hr.mono (by decide)) (passes_call (takes_of rfl rfl rfl rfl) (fun _ _ _ _ h => h)) (pa_cons (pe_and (pe_cmpR op_ne (pe_fldK (K := K) (pv 2)) pe_int (nomark _)) (pe_one (pe_not (pe_met (ok_Section_has T) (hr.mono (by decide)) passL (pv 2) (pa_cons pe_int pa_nil))))) (pa_cons (pe_un un_neg pe_int) pa_nil))))
      (pss_cons (ps_expr (pe_cal (ok_check T) (hr.mono (by decide)) (passes_call (takes_of rfl rfl rfl rfl) (fun _ _ _ _ h => h)) (pa_cons (pe_or (pe_not (pe_met0 (ok_Section_is_loaded T) (hr.mono (by decide)) passL (pv 2))) (pe_or (pe_not (pe_met (ok_Section_has T) (hr.mono (by decide)) passL (pv 2) (pa_cons pe_int pa_nil))) (pe_one (pe_not (pe_met (ok_Section_has T) (hr.mono (by decide)) passL (pv 2) (pa_cons pe_int pa_nil)))))) (pa_cons (pe_un un_neg pe_int) pa_nil))))
      (pss_one (ps_expr (pe_cal (ok_check T) (hr.mono (by decide)) (passes_call (takes_of rfl rfl rfl rfl) (fun _ _ _ _ h => h)) (pa_cons (pe_or (pe_not (pe_met (ok_Section_has T) (hr.mono (by decide)) passL (pv 2) (pa_cons pe_int pa_nil))) (pe_one (pe_cmpR (op_inK (K := K)) (pe_fldK (K := K) (pv 2)) (pe_tup (pa_cons pe_int (pa_cons pe_int (pa_cons pe_int pa_nil)))) (by rfl)))) (pa_cons (pe_un un_neg pe_int) pa_nil)))))))))), ?_⟩)
  · obtain ⟨a, l, b, zs, rfl, _⟩ := h
    rfl
  · obtain ⟨a, l, b, zs, rfl, hR, hL, hS, q1, q2⟩ := h
    refine q_forM (L := zs) (f := fun z => V.ref z.1) (ev_var rfl) hL (fun pre σ' H' => ∃ v, σ' = [some (.ref a), some (.ref l), v] ∧ Ex H H' ∧ ∀ z ∈ pre, Mx.good1 b z.2 = true) (fun H1 e1 => ⟨none, rfl, e1, fun z hz => nomatch hz⟩) (fun pre σ' H' p => by obtain ⟨v, _, e, _⟩ := p; exact ex_l e hL) ?_ ?_
    · rintro pre z post σ' H' hsp ⟨v, rfl, e, hg⟩
      have hz : z ∈ zs := by rw [hsp]; simp
      have hz2 : z.2 ∈ zs.map (·.2) := List.mem_map.mpr ⟨z, hz, rfl⟩
      have S := (hS z hz).mono e
      have R := hR.mono e
      refine q_check (b := decide (z.2.type = 8) || decide (z.2.offset + z.2.size ≤ b.length)) (ev_orV (ev_eqN (ev_fl (ev_var rfl) (fl_Section_sort_of T S)) (ev_kN 8)) fun _ => ev_leN (ev_addN (ev_fl (ev_var rfl) (fl_Section_begin T S)) (ev_fl (ev_var rfl) (fl_Section_size T S))) (ev_lenN' (ev_var rfl) R.sq)) (ev_neg (-3)) (fun hb H1 e1 => ?_) (fun hb => ?_)
      rotate_left
      · refine q2 _ (Mx.secOk_form hz2 ?_)
        have e1 : z.2.within b = (decide (z.2.type = 8) || decide (z.2.offset + z.2.size ≤ b.length)) := rfl
        unfold Mx.good1
        rw [e1, hb, Bool.false_and]
      refine e_check (b := Sn17.powers.contains z.2.align) (ev_align (ev_fl (ev_var rfl) (fl_Section_alignment T (S.mono e1)))) (ev_neg (-3)) (fun hb2 H2 e2 => ⟨_, rfl, (e.trans e1).trans e2, fun y hy => ?_⟩) (fun hb2 => ?_)
      · rcases List.mem_append.mp hy with m | m
        · exact hg y m
        · have ey : y = z := by simpa using m
          subst ey
          have e1 : y.2.within b = (decide (y.2.type = 8) || decide (y.2.offset + y.2.size ≤ b.length)) := rfl
          unfold Mx.good1
          rw [e1, hb, hb2]
          rfl
      · refine q2 _ (Mx.secOk_form hz2 ?_)
        unfold Mx.good1
        rw [hb2, Bool.and_false]
    · rintro σ' H' ⟨v, rfl, e, hg⟩
      have hg2 : ∀ s ∈ zs.map (·.2), Mx.good1 b s = true := fun s hs => by
        obtain ⟨z, hz, rfl⟩ := List.mem_map.mp hs
        exact hg z hz
      refine s_forM (L := zs) (f := fun z => V.ref z.1) (ev_var rfl) (ex_l e hL) (fun pre σ' H' => ∃ v, σ' = [some (.ref a), some (.ref l), v] ∧ Ex H H' ∧ ∀ z ∈ pre, Mx.bad1 z.2 = false) (fun H1 e1 => ⟨_, rfl, e.trans e1, fun z hz => nomatch hz⟩) (fun pre σ' H' p => by obtain ⟨v, _, e, _⟩ := p; exact ex_l e hL) ?_ ?_
      · rintro pre z post σ2 H2 hsp ⟨v2, rfl, e2, hb0⟩
        have hz : z ∈ zs := by rw [hsp]; simp
        have hz2 : z.2 ∈ zs.map (·.2) := List.mem_map.mpr ⟨z, hz, rfl⟩
        have S := (hS z hz).mono e2
        refine q_check (b := (!decide (z.2.type = 9)) && !(z.2.flags / 2 ^ 10 % 2 == 1)) (ev_andV (ev_neN (ev_fl (ev_var rfl) (fl_Section_sort_of T S)) (ev_kN 9)) fun _ => ev_notV (ev_has 1024 10 S (ev_var rfl) (ev_kN 1024))) (ev_neg (-4)) (fun c1 H3 e3 => ?_) (fun c1 => ?_)
        rotate_left
        · refine q2 _ (Mx.secOk_kind hg2 hz2 ?_)
          rw [Mx.bad1_eq]
          have e9 : (z.2.type != 9) = !decide (z.2.type = 9) := rfl
          rw [e9, c1]
          rfl
        have S3 := S.mono e3
        refine q_check (b := !z.2.loads || (!(z.2.flags / 2 ^ 0 % 2 == 1) || !(z.2.flags / 2 ^ 2 % 2 == 1))) (ev_orV (ev_notV (ev_loaded S3 (ev_var rfl))) fun _ => ev_orV (ev_notV (ev_has 1 0 S3 (ev_var rfl) (ev_kN 1))) fun _ => ev_notV (ev_has 4 2 S3 (ev_var rfl) (ev_kN 4))) (ev_neg (-4)) (fun c2 H4 e4 => ?_) (fun c2 => ?_)
        rotate_left
        · refine q2 _ (Mx.secOk_kind hg2 hz2 ?_)
          rw [Mx.bad1_eq, c2, Bool.and_false, Bool.false_and]
          rfl
        have S4 := S3.mono e4
        refine e_check (b := !(z.2.flags / 2 ^ 1 % 2 == 1) || [1, 7, 8].contains z.2.type) (ev_orV (ev_notV (ev_has 2 1 S4 (ev_var rfl) (ev_kN 2))) fun _ => ev_inN (l := [1, 7, 8]) (ev_fl (ev_var rfl) (fl_Section_sort_of T S4)) (ea_cons' (ev_kN 1) (ea_cons' (ev_kN 7) (ea_cons' (ev_kN 8) ea_nil'))) (by decide)) (ev_neg (-4)) (fun c3 H5 e5 => ⟨_, rfl, ((e2.trans e3).trans e4).trans e5, fun y hy => ?_⟩) (fun c3 => ?_)
        · rcases List.mem_append.mp hy with m | m
          · exact hb0 y m
          · have ey : y = z := by simpa using m
            subst ey
            rw [Mx.bad1_eq]
            have e9 : (y.2.type != 9) = !decide (y.2.type = 9) := rfl
            rw [e9, c1, c2, c3]
            rfl
        · refine q2 _ (Mx.secOk_kind hg2 hz2 ?_)
          rw [Mx.bad1_eq, c3, Bool.and_false]
          rfl
      · rintro σ2 H2 ⟨v2, rfl, e2, hb0⟩
        refine q1 (Mx.secOk_ok hg2 fun s hs => ?_) H2 e2
        obtain ⟨z, hz, rfl⟩ := List.mem_map.mp hs
        exact hb0 z hz
/-! ### a symbol checked -/
def spChkSym (K : PySem.W.Frag) : Sp := fun vs H Q E => ∃ (a l : Addr) (i : Nat) (y : Sn17.Sym) (xs : List V), vs = [.ref a, nv i, .ref l] ∧ SymAt K H a y ∧ SqL K H l xs ∧ (Mx.symOk xs.length i y = .ok () → RetV .non H Q) ∧ ErrR K E (Mx.symOk xs.length i y)
theorem ev_lenL {σ : L2.St} {H : Hp} {ta : TE} {p : Addr} {xs : List V} (ha : Ev ta σ H (.ref p)) (h : SqL K H p xs) : Ev (tCB (rLenS K) (tCons ta tNil)) σ H (nv xs.length) := ev_len ha h
theorem ok_check_symbol (T : Tx K mg) : Cal P w K mg base 5 "check_symbol" (spChkSym K) := by
  obtain ⟨fd, F⟩ := T.d_check_symbol
  refine cal_of F T.g_check_symbol sc_check_symbol (fun vs H Q E h => ?_) (fun _ _ _ _ _ _ us hl => match us, hl with | [_, _, _], _ => rfl) (fun cdv A outer s H vs Q E hr h => ⟨_, (pss_cons (ps_expr (pe_cal (ok_check T) (hr.mono (by decide)) (passes_call (takes_of rfl rfl rfl rfl) (fun _ _ _ _ h => h)) (pa_cons (pe_cmpR op_le (pe_fldK (K := K) (pv 0)) pe_int (nomark _)) (pa_cons (pe_un un_neg pe_int) pa_nil))))
      (pss_cons (ps_expr (pe_cal (ok_check T) (hr.mono (by decide)) (passes_call (takes_of rfl rfl rfl rfl) (fun _ _ _ _ h => h)) (pa_cons (pe_or (pe_cmpR op_lt (pe_fldK (K := K) (pv 0)) (pe_callB (call_lenK (K := K)) (by rfl) T.b_len PySem.boot_len (pa_cons (pv 2) pa_nil)) (nomark _)) (pe_one (pe_cmpR (op_inK (K := K)) (pe_fldK (K := K) (pv 0)) (pe_tup (pa_cons (pe_gi T.v_ABSOLUTE) (pa_cons (pe_gi T.v_COMMON) pa_nil))) (by rfl)))) (pa_cons (pe_un un_neg pe_int) pa_nil))))
      (pss_cons (ps_expr (pe_cal (ok_check T) (hr.mono (by decide)) (passes_call (takes_of rfl rfl rfl rfl) (fun _ _ _ _ h => h)) (pa_cons (pe_or (pe_cmpR op_ne (pe_fldK (K := K) (pv 0)) (pe_gi T.v_COMMON) (nomark _)) (pe_one (pe_cal (ok_is_alignment T) (hr.mono (by decide)) passL (pa_cons (pe_fldK (K := K) (pv 0)) pa_nil)))) (pa_cons (pe_un un_neg pe_int) pa_nil))))
      (pss_one (ps_if (pt_cmpR op_eq (pe_fldK (K := K) (pv 0)) (pe_gi T.v_LOCAL) (nomark _)) (pss_one (ps_expr (pe_cal (ok_check T) (hr.mono (by decide)) (passes_call (takes_of rfl rfl rfl rfl) (fun _ _ _ _ h => h)) (pa_cons (pe_and (pe_cmpR op_ne (pe_fldK (K := K) (pv 0)) (pe_gi T.v_COMMON) (nomark _)) (pe_one (pe_or (pe_cmpR op_ne (pe_fldK (K := K) (pv 0)) pe_int (nomark _)) (pe_one (pe_cmpR op_eq (pv 1) pe_int (nomark _)))))) (pa_cons (pe_un un_neg pe_int) pa_nil))))) (pss_one (ps_expr (pe_cal (ok_check T) (hr.mono (by decide)) (passes_call (takes_of rfl rfl rfl rfl) (fun _ _ _ _ h => h)) (pa_cons (pe_cmpR (op_neDK (K := K) hr.units) (pe_fldK (K := K) (pv 0)) (pe_tup pa_nil) (nomark _)) (pa_cons (pe_un un_neg pe_int) pa_nil)))))))))), ?_⟩)
  · obtain ⟨a, l, i, y, xs, rfl, _⟩ := h
    rfl
  · obtain ⟨a, l, i, y, xs, rfl, hS, hL, q1, q2⟩ := h
    refine q_check (ev_leN (ev_fl (ev_var rfl) (fl_Symbol_binding T hS)) (ev_kN 2)) (ev_neg (-4)) (fun c1 H1 e1 => ?_) (fun c1 => ?_)
    rotate_left
    · refine q2 .kind ?_
      have z := of_decide_eq_false c1
      unfold Mx.symOk
      rw [if_pos (by omega)]
    have d1 : ¬ 2 < y.bind := by
      have z := of_decide_eq_true c1
      omega
    have S1 := hS.mono e1
    refine q_check (b := decide (y.sec < xs.length) || [65521, 65522].contains y.sec) (ev_orV (ev_ltN (ev_fl (ev_var rfl) (fl_Symbol_section T S1)) (ev_lenL (ev_var rfl) (ex_l e1 hL))) fun _ => ev_inN (l := [65521, 65522]) (ev_fl (ev_var rfl) (fl_Symbol_section T S1)) (ea_cons' (ev_kN 65521) (ea_cons' (ev_kN 65522) ea_nil')) (by decide)) (ev_neg (-3)) (fun c2 H2 e2 => ?_) (fun c2 => ?_)
    rotate_left
    · refine q2 .form ?_
      unfold Mx.symOk
      rw [if_neg d1, if_pos]
      rw [Bool.or_eq_false_iff] at c2
      have z1 := of_decide_eq_false c2.1
      have z2 := c2.2
      simp only [List.contains_cons, List.contains_nil, Bool.or_false, Bool.or_eq_false_iff, beq_eq_false_iff_ne] at z2
      exact ⟨by omega, z2.1, z2.2⟩
    have d2 : ¬ (xs.length ≤ y.sec ∧ y.sec ≠ Sn17.ABS ∧ y.sec ≠ Sn17.COMMON) := by
      rintro ⟨z1, z2, z3⟩
      rw [Bool.or_eq_true] at c2
      rcases c2 with z | z
      · have := of_decide_eq_true z
        omega
      · simp only [List.contains_cons, List.contains_nil, Bool.or_false, Bool.or_eq_true, beq_iff_eq] at z
        rcases z with z | z
        · exact z2 z
        · exact z3 z
    have S2 := S1.mono e2
    refine q_check (b := (!decide (y.sec = 65522)) || Sn17.powers.contains y.value) (ev_orV (ev_neN (ev_fl (ev_var rfl) (fl_Symbol_section T S2)) (ev_kN 65522)) fun _ => ev_align (ev_fl (ev_var rfl) (fl_Symbol_value T S2))) (ev_neg (-3)) (fun c3 H3 e3 => ?_) (fun c3 => ?_)
    rotate_left
    · refine q2 .form ?_
      unfold Mx.symOk
      rw [if_neg d1, if_neg d2, if_pos]
      rw [Bool.or_eq_false_iff] at c3
      have z1 : decide (y.sec = 65522) = true := by simpa using c3.1
      exact ⟨of_decide_eq_true z1, c3.2⟩
    have d3 : ¬ (y.sec = Sn17.COMMON ∧ Sn17.powers.contains y.value = false) := by
      rintro ⟨z1, z2⟩
      rw [z2, Bool.or_false] at c3
      have z3 : ¬ y.sec = 65522 := by simpa using c3
      exact z3 z1
    have S3 := S2.mono e3
    have e123 := (e1.trans e2).trans e3
    refine s_if (et_eqN (ev_fl (ev_var rfl) (fl_Symbol_binding T S3)) (ev_kN 0)) (fun c4 H4 e4 => ?_) (fun c4 H4 e4 => ?_)
    · have b0 := of_decide_eq_true c4
      have S4 := S3.mono e4
      refine e_check (b := (!decide (y.sec = 65522)) && ((!decide (y.sec = 0)) || decide (i = 0))) (ev_andV (ev_neN (ev_fl (ev_var rfl) (fl_Symbol_section T S4)) (ev_kN 65522)) fun _ => ev_orV (ev_neN (ev_fl (ev_var rfl) (fl_Symbol_section T S4)) (ev_kN 0)) fun _ => ev_eqN (ev_var rfl) (ev_kN 0)) (ev_neg (-3)) (fun c5 H5 e5 => ?_) (fun c5 => ?_)
      · refine q1 ?_ H5 ((e123.trans e4).trans e5)
        unfold Mx.symOk
        rw [if_neg d1, if_neg d2, if_neg d3, if_neg]
        simp only [Bool.and_eq_true, Bool.not_eq_true', decide_eq_false_iff_not, Bool.or_eq_true, decide_eq_true_eq] at c5
        rintro (⟨z, _⟩ | ⟨_, z1, z2⟩ | ⟨_, z⟩)
        · exact z b0
        · rcases c5.2 with z3 | z3
          · exact z3 z1
          · exact z2 z3
        · exact c5.1 z
      · refine q2 .form ?_
        unfold Mx.symOk
        rw [if_neg d1, if_neg d2, if_neg d3, if_pos]
        by_cases z : y.sec = 65522
        · exact .inr (.inr ⟨b0, z⟩)
        · simp [z] at c5
          exact .inr (.inl ⟨b0, c5.1, c5.2⟩)
    · have b0 := of_decide_eq_false c4
      have S4 := S3.mono e4
      obtain ⟨t, F, hT⟩ := nm_Symbol T S4
      refine e_check (b := !decide (y.name = [])) (ev_opU (xs := iv []) (ev_fl (ev_var rfl) F) (eu_tup ea_nil' (by decide)) fun p H5 hp e5 => rv_neT (ex_t e5 (SqT.of hT)) (SqT.of hp)) (ev_neg (-3)) (fun c5 H5 e5 => ?_) (fun c5 => ?_)
      · refine q1 ?_ H5 ((e123.trans e4).trans e5)
        unfold Mx.symOk
        rw [if_neg d1, if_neg d2, if_neg d3, if_neg]
        have z : ¬ y.name = [] := by simpa using c5
        rintro (⟨_, z1⟩ | ⟨z1, _⟩ | ⟨z1, _⟩)
        · exact z z1
        · exact b0 z1
        · exact b0 z1
      · refine q2 .form ?_
        unfold Mx.symOk
        rw [if_neg d1, if_neg d2, if_neg d3, if_pos]
        have z : y.name = [] := by simpa using c5
        exact .inl ⟨b0, z⟩
end
end Lk

set_option Elab.async false
set_option linter.all false
set_option maxRecDepth 100000
set_option maxHeartbeats 4000000
/-! # The symbol table -/
namespace Lk
open PySem PySem.Spec PyProof.Rows L2 Evl He
theorem range_split {i n : Nat} (h : i < n) : ∃ post, List.range n = List.range i ++ i :: post := by
  refine ⟨(List.range n).drop (i + 1), ?_⟩
  have h1 : (List.range n)[i]? = some i := by rw [List.getElem?_range h]
  have z := (split_at h1).1
  rw [List.take_range, Nat.min_eq_left (by omega)] at z
  exact z
theorem mapM_more {β : Type} {f : Nat → Sn17.R β} {i : Nat} {ys : List β} {y : β} (h : (List.range i).mapM f = .ok ys) (hx : f i = .ok y) : (List.range (i + 1)).mapM f = .ok (ys ++ [y]) := by
  rw [List.range_succ]
  exact Mx.mapM_snoc h hx
theorem mapM_stop {β : Type} {f : Nat → Sn17.R β} {i n : Nat} {ys : List β} {e : Sn17.Bad} (hi : i < n) (h : (List.range i).mapM f = .ok ys) (hx : f i = .error e) : (List.range n).mapM f = .error e := by
  obtain ⟨post, hp⟩ := range_split hi
  rw [hp]
  exact Mx.mapM_err h hx
theorem filter_snd (p : Sn17.Sec → Bool) (zs : List (Addr × Sn17.Sec)) : (zs.map (·.2)).filter p = (zs.filter fun z => p z.2).map (·.2) := by
  rw [List.filter_map]
  rfl
section
variable {P : Program} {w : World} {K : PySem.W.Frag} {mg : Str → Option Value} {base : Heap}
/-- a call as a statement: what raises in it leaves by E -/
theorem q_cal {E : XK} {sp : Sp} {σ : L2.St} {H : Hp} {at_ : TA} {vs : List V} {tz : TS} {D : Ends} (h : EvA at_ σ H vs) (k : ∀ H1, Ex H H1 → sp vs H1 (fun _ H2 => tz D σ H2) E) : tSeq (tDrop (tCall sp [] E at_)) tz D σ H :=
  h H (Ex.refl H) _ fun H1 e1 => by
    rw [List.append_nil]
    exact k H1 e1
theorem e_cal {E : XK} {sp : Sp} {σ : L2.St} {H : Hp} {at_ : TA} {vs : List V} {D : Ends} (h : EvA at_ σ H vs) (k : ∀ H1, Ex H H1 → sp vs H1 (fun _ H2 => D.nx σ H2) E) : tDrop (tCall sp [] E at_) D σ H :=
  h H (Ex.refl H) _ fun H1 e1 => by
    rw [List.append_nil]
    exact k H1 e1
theorem rw_ent {H : Hp} {r : Addr} {b e : List Nat} {i : Nat} (hb : ∀ x ∈ e, x < 256) (h : H r = some (.lst (iv (Mx.ent e i)))) : Rw K H r (Mx.ent e i) :=
  ⟨SqL.of h, by unfold Mx.ent; rw [List.length_take]; omega, fun x hx => hb x (List.mem_of_mem_drop (List.mem_of_mem_take hx))⟩
theorem ent_len {e : List Nat} {i : Nat} (h : 24 * i + 24 ≤ e.length) : (Mx.ent e i).length = 24 := by
  unfold Mx.ent
  rw [List.length_take, List.length_drop]
  omega
theorem el_ent {σ : L2.St} {H : Hp} {ta ti tj : TE} {p : Addr} {e : List Nat} {i : Nat} (h : Ev ta σ H (.ref p)) (hs : SqL K H p (iv e)) (h1 : Ev ti σ H (nv (24 * i))) (h2 : Ev tj σ H (nv (24 * i + 24))) : EvL (tSl (rSlL K) ta (tPart ti) (tPart tj)) σ H (iv (Mx.ent e i)) := by
  have z := el_sl h (eo_some h1) (eo_some h2) hs
  rw [iv_slice, show 24 * i + 24 - 24 * i = 24 by omega] at z
  exact z
def spSyms (K : PySem.W.Frag) : Sp := fun vs H Q E => ∃ (a l : Addr) (b : List Nat) (zs : List (Addr × Sn17.Sec)), vs = [.ref a, .ref l] ∧ Rw K H a b ∧ SqL K H l (zsL zs) ∧ (∀ z ∈ zs, SecAt K H z.1 z.2 0 0) ∧
  (∀ z ∈ zs, z.2.type ≠ 8 → z.2.offset + z.2.size ≤ b.length) ∧ zs.length ≤ 65536 ∧
  (∀ ys, Mx.symRaw b (zs.map (·.2)) = .ok ys → ∀ (p : Addr) (zy : List (Addr × Sn17.Sym)) (H' : Hp), H p = none → Ex H H' → H' p = some (.lst (zy.map fun z => V.ref z.1)) → zy.map (·.2) = ys → (∀ z ∈ zy, SymAt K H' z.1 z.2) → Q (.ref p) H') ∧
  ErrR K E (Mx.symRaw b (zs.map (·.2)))
theorem ok_symbols_of (T : Tx K mg) : Cal P w K mg base 6 "symbols_of" (spSyms K) := by
  obtain ⟨fd, F⟩ := T.d_symbols_of
  refine cal_of F T.g_symbols_of sc_symbols_of (fun vs H Q E h => ?_) (fun _ _ _ _ _ _ us hl => match us, hl with | [_, _], _ => rfl) (fun cdv A outer s H vs Q E hr h => ⟨_, (pss_cons (ps_setLc (i := 3) (own := [("one", 2)]) (g := gName 2) rfl sc_symbols_of.nd rfl rfl (sw_true rfl rfl rfl (by decide +kernel)) (pi_listK (K := K) (pv 1)) (blkOk_by (own := [("one", 2)]) (N := ["row", "sections", "one", "tables", "table", "names", "entries", "found", "number", "entry"]) (sc := defScope s_symbols_of) (by decide +kernel)) (fun _ _ _ _ _ => pg_name (i := 2) sc_symbols_of.nd rfl (Or.inl rfl)) (fun _ _ _ _ _ => (pts_one (pt_cmpR op_eq (pe_fldK (K := K) (pv 2)) (pe_gi T.v_SYMBOLS) (nomark _)))) (fun _ _ _ _ _ => (pv 2)))
      (pss_cons (ps_expr (pe_cal (ok_check T) (hr.mono (by decide)) (passes_call (takes_of rfl rfl rfl rfl) (fun _ _ _ _ h => h)) (pa_cons (pe_cmpR op_eq (pe_callB (call_lenK (K := K)) (by rfl) T.b_len PySem.boot_len (pa_cons (pv 3) pa_nil)) pe_int (nomark _)) (pa_cons (pe_un un_neg pe_int) pa_nil))))
      (pss_cons (ps_set (i := 4) sc_symbols_of.nd rfl (Or.inl rfl) (pe_ix (ix_listK (K := K)) (pv 3) pe_int (fun _ _ => rfl)))
      (pss_cons (ps_expr (pe_cal (ok_check T) (hr.mono (by decide)) (passes_call (takes_of rfl rfl rfl rfl) (fun _ _ _ _ h => h)) (pa_cons (pe_and (pe_cmpR op_lt (pe_fldK (K := K) (pv 4)) (pe_callB (call_lenK (K := K)) (by rfl) T.b_len PySem.boot_len (pa_cons (pv 1) pa_nil)) (nomark _)) (pe_one (pe_cmpR op_eq (pe_fldK (K := K) (pe_ix (ix_listK (K := K)) (pv 1) (pe_fldK (K := K) (pv 4)) (fun _ _ => rfl))) (pe_gi T.v_NAMES) (nomark _)))) (pa_cons (pe_un un_neg pe_int) pa_nil))))
      (pss_cons (ps_expr (pe_cal (ok_check T) (hr.mono (by decide)) (passes_call (takes_of rfl rfl rfl rfl) (fun _ _ _ _ h => h)) (pa_cons (pe_and (pe_cmpR op_eq (pe_fldK (K := K) (pv 4)) pe_int (nomark _)) (pe_one (pe_cmpR op_eq (pe_op op_mod (pe_fldK (K := K) (pv 4)) pe_int) pe_int (nomark _)))) (pa_cons (pe_un un_neg pe_int) pa_nil))))
      (pss_cons (ps_par3 (i := 5) (j := 6) (l := 7) (by rfl) sc_symbols_of.nd rfl rfl rfl (by decide) (by decide) (by decide) rfl rfl rfl (pa_cons (pe_cal (ok_bytes_of T) (hr.mono (by decide)) passL (pa_cons (pv 0) (pa_cons (pe_ix (ix_listK (K := K)) (pv 1) (pe_fldK (K := K) (pv 4)) (fun _ _ => rfl)) pa_nil))) (pa_cons (pe_cal (ok_bytes_of T) (hr.mono (by decide)) passL (pa_cons (pv 0) (pa_cons (pv 4) pa_nil))) (pa_cons (pe_lst pa_nil) pa_nil))) (by rfl))
      (pss_cons (ps_for (passes_of rfl) rfl (pi_range1 (by rfl) T.b_range (pa_cons (pe_op op_fdiv (pe_fldK (K := K) (pv 4)) pe_int) pa_nil)) (pg_name (i := 8) sc_symbols_of.nd rfl (Or.inl rfl)) (pss_cons (ps_set (i := 9) sc_symbols_of.nd rfl (Or.inl rfl) (pe_slice (sl_listK (K := K)) (pv 6) (po_some (pe_op op_mul pe_int (pv 8))) (po_some (pe_op op_add (pe_op op_mul pe_int (pv 8)) pe_int))))
      (pss_cons (ps_set (i := 2) sc_symbols_of.nd rfl (Or.inl rfl) (pe_mak (ok_Symbol_init T) (hr.mono (by decide)) passL (pa_cons (pv 9) (pa_cons (pe_cal (ok_name_at T) (hr.mono (by decide)) (passes_call (takes_of rfl rfl rfl rfl) (fun _ _ _ _ h => h)) (pa_cons (pv 5) (pa_cons (pe_cal (ok_number_at T) (hr.mono (by decide)) passL (pa_cons (pv 9) (pa_cons pe_int (pa_cons pe_int pa_nil)))) pa_nil))) pa_nil))))
      (pss_cons (ps_expr (pe_cal (ok_check_symbol T) (hr.mono (by decide)) (passes_call (takes_of rfl rfl rfl rfl) (fun _ _ _ _ h => h)) (pa_cons (pv 2) (pa_cons (pv 8) (pa_cons (pv 1) pa_nil)))))
      (pss_one (ps_expr (pe_bmK (K := K) PySem.F.plainAttrs_list PySem.F.slot_list_append PySem.F.type_list_append mt_append (pv 7) (pa_cons (pv 2) pa_nil))))))))
      (pss_one (ps_ret (pv 7)))))))))), ?_⟩)
  · obtain ⟨a, l, b, zs, rfl, _⟩ := h
    rfl
  · obtain ⟨a, l, b, zs, rfl, hR, hL, hS, hw, hz, q1, q2⟩ := h
    refine q_asgL (el_lcM (L := zs) (f := fun z => V.ref z.1) (g := fun z => V.ref z.1) (p := fun z => decide (z.2.type = 2)) (ev_var rfl) hL (by omega) (fun _ => rfl) (fun z m H1 e1 => et_eqN (ev_fl (ev_var rfl) (fl_Section_sort_of T ((hS z m).mono e1))) (ev_kN 2)) (fun z m H1 e1 _ => ev_var rfl)) fun tp H1 _ e1 h1 => ?_
    have hfs := filter_snd (fun s => decide (s.type = 2)) zs
    generalize hfz : (zs.filter fun z => decide (z.2.type = 2)) = fz at h1 hfs
    refine q_check (ev_eqN (ev_lenL (ev_var rfl) (SqL.of h1)) (ev_kN 1)) (ev_neg (-3)) (fun c1 H2 e2 => ?_) (fun c1 => ?_)
    rotate_left
    · refine q2 .form ?_
      have z := of_decide_eq_false c1
      rw [List.length_map] at z
      unfold Mx.symRaw
      rw [hfs]
      match fz, z with
      | [], _ => rfl
      | [_], z => exact absurd rfl z
      | _ :: _ :: _, _ => rfl
    have c1' := of_decide_eq_true c1
    rw [List.length_map] at c1'
    obtain ⟨⟨ta, t⟩, rfl⟩ := List.length_eq_one_iff.mp c1'
    have hmem : (ta, t) ∈ zs ∧ t.type = 2 := by
      have m : (ta, t) ∈ zs.filter fun z => decide (z.2.type = 2) := by rw [hfz]; exact List.mem_singleton.mpr rfl
      have m2 := List.mem_filter.mp m
      exact ⟨m2.1, of_decide_eq_true m2.2⟩
    have hraw : Mx.symRaw b (zs.map (·.2)) = Mx.symTab b (zs.map (·.2)) t := by
      unfold Mx.symRaw
      rw [hfs]
      rfl
    rw [hraw] at q1 q2
    refine q_asg (ev_ixL (v := .ref ta) (ev_var rfl) (SqL.of (e2 _ _ h1)) (ev_kN 0) rfl) fun H3 e3 => ?_
    have e13 := (e1.trans e2).trans e3
    have St := (hS _ hmem.1).mono e13
    have L3 := ex_l e13 hL
    have hlen : (zsL zs).length = zs.length := List.length_map _
    by_cases hlt : t.link < zs.length
    rotate_left
    · refine q_check (b := decide (t.link < (zsL zs).length) && true) (ev_andV (ev_ltN (ev_fl (ev_var rfl) (fl_Section_linked T St)) (ev_lenL (ev_var rfl) L3)) fun z => absurd (of_decide_eq_true z) (by rw [hlen]; exact hlt)) (ev_neg (-3)) (fun c2 => ?_) (fun c2 => ?_)
      · rw [Bool.and_true] at c2
        exact absurd (of_decide_eq_true c2) (by rw [hlen]; exact hlt)
      · refine q2 .form ?_
        unfold Mx.symTab
        rw [List.getElem?_eq_none (by rw [List.length_map]; omega)]
    obtain ⟨⟨na, s⟩, hns⟩ : ∃ z, zs[t.link]? = some z := ⟨_, List.getElem?_eq_getElem hlt⟩
    have Sn := (hS _ (List.mem_of_getElem? hns)).mono e13
    have hix : (zsL zs)[t.link]? = some (.ref na) := by
      unfold zsL
      rw [List.getElem?_map, hns]
      rfl
    have hsx : (zs.map (·.2))[t.link]? = some s := by
      rw [List.getElem?_map, hns]
      rfl
    have htab : Mx.symTab b (zs.map (·.2)) t = if s.type ≠ 3 ∨ t.entry ≠ 24 ∨ t.size % 24 ≠ 0 then .error .form else (List.range (t.size / 24)).mapM (Mx.symStep (zs.map (·.2)).length (Mx.cutOf b s) (Mx.cutOf b t)) := by
      unfold Mx.symTab
      rw [hsx]
      rfl
    rw [htab] at q1 q2
    refine q_check (b := decide (t.link < (zsL zs).length) && decide (s.type = 3)) (ev_andV (ev_ltN (ev_fl (ev_var rfl) (fl_Section_linked T St)) (ev_lenL (ev_var rfl) L3)) fun _ => ev_eqN (ev_fl (ev_ixL (ev_var rfl) L3 (ev_fl (ev_var rfl) (fl_Section_linked T St)) hix) (fl_Section_sort_of T Sn)) (ev_kN 3)) (ev_neg (-3)) (fun c2 H4 e4 => ?_) (fun c2 => ?_)
    rotate_left
    · refine q2 .form ?_
      rw [hlen, decide_eq_true hlt, Bool.true_and] at c2
      rw [if_pos (.inl (of_decide_eq_false c2))]
    have d2 : s.type = 3 := by
      rw [Bool.and_eq_true] at c2
      exact of_decide_eq_true c2.2
    have St4 := St.mono e4
    refine q_check (b := decide (t.entry = 24) && decide (t.size % 24 = 0)) (ev_andV (ev_eqN (ev_fl (ev_var rfl) (fl_Section_entry T St4)) (ev_kN 24)) fun _ => ev_eqN (ev_modN (ev_fl (ev_var rfl) (fl_Section_size T St4)) (ev_kN 24) (by decide)) (ev_kN 0)) (ev_neg (-3)) (fun c3 H5 e5 => ?_) (fun c3 => ?_)
    rotate_left
    · refine q2 .form ?_
      rw [if_pos]
      by_cases z : t.entry = 24
      · simp [z] at c3
        exact .inr (.inr c3)
      · exact .inr (.inl z)
    have d3 : t.entry = 24 ∧ t.size % 24 = 0 := by
      rw [Bool.and_eq_true] at c3
      exact ⟨of_decide_eq_true c3.1, of_decide_eq_true c3.2⟩
    rw [if_neg (by rintro (z | z | z); exact z d2; exact z d3.1; exact z d3.2)] at q1 q2
    have e15 := (e13.trans e4).trans e5
    have R5 := hR.mono e15
    have St5 := St4.mono e5
    have Sn5 := (Sn.mono e4).mono e5
    have L5 := ex_l e15 hL
    -- names, entries, found
    refine (el_bytes R5 Sn5 (ev_var rfl) (ev_ixL (ev_var rfl) L5 (ev_fl (ev_var rfl) (fl_Section_linked T St5)) hix)) H5 (Ex.refl H5) _ fun np H6 _ e6 h6 => ?_
    refine (el_bytes (R5.mono e6) (St5.mono e6) (ev_var rfl) (ev_var rfl)) H6 (Ex.refl H6) _ fun ep H7 _ e7 h7 => ?_
    refine (el_lst ea_nil (by decide)) H7 (Ex.refl H7) _ fun fp H8 f8 e8 h8 => ⟨_, _, _, rfl, ?_⟩
    have e57 := e6.trans e7
    have hsz : t.offset + t.size ≤ b.length := hw _ hmem.1 (by rw [hmem.2]; decide)
    have hbl := hR.len
    have hel : (Mx.cutOf b t).length = t.size := by
      unfold Mx.cutOf
      rw [List.length_take, List.length_drop]
      omega
    have hby : ∀ x ∈ Mx.cutOf b t, x < 256 := fun x hx => hR.by_ x (List.mem_of_mem_drop (List.mem_of_mem_take hx))
    have Rn7 : Rw K H7 np (Mx.cutOf b s) := (rw_bytes s hR h6).mono e7
    refine q_forR1 (n := ((t.size / 24 : Nat) : Int)) (ea_cons (ev_fdivN (ev_fl (ev_var rfl) (fl_Section_size T ((St5.mono e57).mono e8))) (ev_kN 24) (by decide) (by decide)) ea_nil) ⟨by omega, by omega⟩
      (fun i σ' H' => ∃ (v2 v8 v9 : Option V) (zy : List (Addr × Sn17.Sym)), σ' = [some (.ref a), some (.ref l), v2, some (.ref tp), some (.ref ta), some (.ref np), some (.ref ep), some (.ref fp), v8, v9] ∧ Ex H7 H' ∧ H' fp = some (.lst (zy.map fun z => V.ref z.1)) ∧
        (List.range i).mapM (Mx.symStep (zs.map (·.2)).length (Mx.cutOf b s) (Mx.cutOf b t)) = .ok (zy.map (·.2)) ∧ ∀ z ∈ zy, SymAt K H' z.1 z.2)
      (fun H9 e9 => ⟨none, none, none, [], rfl, e8.trans e9, e9 _ _ h8, rfl, fun z hz => nomatch hz⟩) ?_ ?_
    · rintro i σ' H' hi ⟨v2, v8, v9, zy, rfl, ee, hf, hm, hy⟩
      have hi' : i < t.size / 24 := by omega
      have h24 := Mx.div_mul24 hi'
      have hent : (Mx.ent (Mx.cutOf b t) i).length = 24 := ent_len (by omega)
      refine q_asgL (el_ent (i := i) (ev_var rfl) (SqL.of (ee _ _ h7)) (ev_mulN (ev_kN 24) (ev_var rfl) (.inl (by decide))) (ev_addN (ev_mulN (ev_kN 24) (ev_var rfl) (.inl (by decide))) (ev_kN 24))) fun r Ha _ ea ha => ?_
      have Rr : Rw K Ha r (Mx.ent (Mx.cutOf b t) i) := rw_ent (b := b) hby ha
      have e7a := ee.trans ea
      -- one = Symbol(entry, name_at(..))
      refine ⟨.ref r, rfl, .ref np, rfl, ?_⟩
      have eb : Ex Ha Ha := Ex.refl Ha
      refine (ev_num 0 4 (Rr.mono eb) (by omega) (ev_var rfl) (ev_kN 0) (ev_kN 4)) Ha (Ex.refl Ha) _ fun Hc ec => ?_
      refine ⟨np, Mx.cutOf b s, _, rfl, (Rn7.mono e7a).mono (eb.trans ec), fun x hx p Hd hp ed hd => ?_, fun hx => ?_⟩
      rotate_left
      · refine q2 .form (mapM_stop hi' hm ?_)
        unfold Mx.symStep
        rw [hx]
      have ead := (eb.trans ec).trans ed
      intro o dx no nd ne
      refine ⟨o, dx, r, p, _, rfl, upd_same, (Rr.mono ead).mono (fun c u hc => by rw [upd_ne (ne_of_none hc no), upd_ne (ne_of_none hc nd)]; exact hc), hent, fun He he ue => ⟨rfl, ?_⟩⟩
      have ede : Ex Hd He := Up.made no nd ue
      have So : SymAt K He o (Mx.symOf (Mx.ent (Mx.cutOf b t) i) x) := ⟨dx, p, he, ede _ _ hd⟩
      have eae := ead.trans ede
      have e7e := e7a.trans eae
      -- check_symbol
      refine q_cal (ea_cons (ev_var (v := .ref o) rfl) (ea_cons (ev_var (v := nv i) rfl) (ea_cons (ev_var (v := .ref l) rfl) ea_nil))) fun Hf ef => ?_
      refine ⟨o, l, i, _, zsL zs, rfl, So.mono ef, ex_l ((e57.trans e7e).trans ef) L5, fun hok Hg eg => ?_, fun e he => ?_⟩
      rotate_left
      · refine q2 e (mapM_stop hi' hm ?_)
        unfold Mx.symStep
        rw [hx]
        rw [hlen] at he
        rw [List.length_map]
        dsimp only
        rw [he]
        rfl
      have hstep : Mx.symStep (zs.map (·.2)).length (Mx.cutOf b s) (Mx.cutOf b t) i = .ok (Mx.symOf (Mx.ent (Mx.cutOf b t) i) x) := by
        unfold Mx.symStep
        rw [hx]
        rw [hlen] at hok
        rw [List.length_map]
        dsimp only
        rw [hok]
        rfl
      have eag := (eae.trans ef).trans eg
      have hfg := eag _ _ (ea _ _ hf)
      have hzl : zy.length = i := by
        have z := Mx.mapM_len hm
        rw [List.length_map, List.length_range] at z
        exact z
      refine s_app hfg (ev_var rfl) (ev_var rfl) (by rw [List.length_map]; omega) fun Hh eh => ?_
      refine ⟨_, _, _, zy ++ [(o, Mx.symOf (Mx.ent (Mx.cutOf b t) i) x)], rfl, Ex.mut (((e7e.trans ef).trans eg).trans eh) f8, ?_, ?_, ?_⟩
      · rw [upd_same, List.map_append]
        rfl
      · rw [List.map_append]
        exact mapM_more hm hstep
      · have keep : ∀ {c : Addr} {y : Sn17.Sym}, SymAt K Hh c y → SymAt K (upd Hh fp (.lst (zy.map (fun z => V.ref z.1) ++ [.ref o]))) c y := fun {c y} ⟨dc, tc, h1, h2⟩ =>
          ⟨dc, tc, by rw [upd_ne (ne_of h1 (eh _ _ hfg) (fun z => nomatch z))]; exact h1, by rw [upd_ne (ne_of h2 (eh _ _ hfg) (fun z => nomatch z))]; exact h2⟩
        intro z hzm
        rcases List.mem_append.mp hzm with m | m
        · exact keep ((hy z m).mono ((ea.trans eag).trans eh))
        · have e : z = (o, Mx.symOf (Mx.ent (Mx.cutOf b t) i) x) := by simpa using m
          subst e
          exact keep (((So.mono ef).mono eg).mono eh)
    · rintro σ' H' ⟨v2, v8, v9, zy, rfl, ee, hf, hm, hy⟩
      refine s_ret (ev_var rfl) fun H9 e9 => ?_
      have hfin : H fp = none := fresh_back (e15.trans e57) f8
      refine q1 _ hm fp zy H9 hfin (((e15.trans e57).trans ee).trans e9) (e9 _ _ hf) rfl fun z m => (hy z m).mono e9
end
end Lk

set_option Elab.async false
set_option linter.all false
set_option maxRecDepth 100000
set_option maxHeartbeats 4000000
/-! # The relocations as they are read -/
namespace Lk
open PySem PySem.Spec PyProof.Rows L2 Evl He
section
variable {P : Program} {w : World} {K : PySem.W.Frag} {mg : Str → Option Value} {base : Heap}
theorem Up.seqA {p a : Addr} {H H' : Hp} {xs : List V} (u : Up p H H') (n : a ≠ p) (h : SqL K H a xs) : SqL K H' a xs := by
  rcases h with (h | ⟨o, h⟩) | h
  · exact .inl (.inl (u _ _ h n))
  · exact .inl (.inr ⟨o, u _ _ h n⟩)
  · exact .inr h
theorem Up.rwA {p a : Addr} {H H' : Hp} {l : List Nat} (u : Up p H H') (n : a ≠ p) (h : Rw K H a l) : Rw K H' a l := ⟨u.seqA n h.sq, h.len, h.by_⟩
theorem Up.secA {p a : Addr} {H H' : Hp} {xs : List V} {s : Sn17.Sec} {x y : Nat} (u : Up p H H') (hp : H p = some (.lst xs)) (h : SecAt K H a s x y) : SecAt K H' a s x y := by
  obtain ⟨dx, h⟩ := h
  exact ⟨dx, u _ _ h (ne_of h hp (fun z => nomatch z))⟩
theorem Up.relA {p a c : Addr} {H H' : Hp} {xs : List V} {r : Sn17.Rel} (u : Up p H H') (hp : H p = some (.lst xs)) (h : RelAt K H a r c) : RelAt K H' a r c := by
  obtain ⟨dx, h⟩ := h
  exact ⟨dx, u _ _ h (ne_of h hp (fun z => nomatch z))⟩
theorem Up.exF {p : Addr} {H H1 H2 : Hp} (hp : H p = none) (e : Ex H H1) (u : Up p H1 H2) : Ex H H2 := fun b o h => u b o (e b o h) (ne_of_none h hp)
theorem ex_ne {H H1 : Hp} {a p : Addr} {xs : List V} (h : SqL K H a xs) (hp : H p = none) : (∃ o, H a = some o) → a ≠ p := fun ⟨o, z⟩ => ne_of_none z hp
/-- a list that was known ahead of the new list at p -/
theorem Up.seqF {p a : Addr} {H H1 H2 : Hp} {xs : List V} (hp : H p = none) (e : Ex H H1) (u : Up p H1 H2) (h : SqL K H a xs) : SqL K H2 a xs := ex_l (Up.exF hp e u) h
/-- xs.append(e), the list below sizeLine -/
theorem s_appW {σ : L2.St} {H : Hp} {ta te : TE} {D : Ends} {l : Addr} {xs : List V} {v : V} (hl : H l = some (.lst xs)) (ha : Ev ta σ H (.ref l)) (h : Ev te σ H v) (hz : xs.length < 16777216) (k : ∀ H1, Ex H H1 → D.nx σ (upd H1 l (.lst (xs ++ [v])))) :
    tDrop (tBM K "list" rAppend ta (tCons te tNil)) D σ H := ha H (Ex.refl H) _ fun H1 e1 =>
  ⟨Or.inl ⟨rfl, xs, sq_of (e1 l _ hl)⟩, h H1 e1 _ fun H2 e2 => ⟨l, xs, v, rfl, rfl, e2 l _ (e1 l _ hl), by rw [sizeLine_eq]; exact hz, k H2 (e1.trans e2)⟩⟩
def RelIn (K : PySem.W.Frag) (H : Hp) (zs : List (Addr × Sn17.Sec)) (z : Addr × Sn17.Rel) : Prop := ∃ c s, zs[z.2.sec]? = some (c, s) ∧ RelAt K H z.1 z.2 c
theorem RelIn.mono {H H' : Hp} {zs : List (Addr × Sn17.Sec)} {z : Addr × Sn17.Rel} (h : RelIn K H zs z) (e : Ex H H') : RelIn K H' zs z := by
  obtain ⟨c, s, h1, h2⟩ := h
  exact ⟨c, s, h1, h2.mono e⟩
theorem RelIn.up {p : Addr} {H H' : Hp} {xs : List V} {zs : List (Addr × Sn17.Sec)} {z : Addr × Sn17.Rel} (h : RelIn K H zs z) (u : Up p H H') (hp : H p = some (.lst xs)) : RelIn K H' zs z := by
  obtain ⟨c, s, h1, h2⟩ := h
  exact ⟨c, s, h1, u.relA hp h2⟩
def spRels (K : PySem.W.Frag) : Sp := fun vs H Q E => ∃ (a l m : Addr) (b : List Nat) (zs : List (Addr × Sn17.Sec)) (xs : List V) (k : Nat), vs = [.ref a, .ref l, .ref m] ∧ Rw K H a b ∧ SqL K H l (zsL zs) ∧ (∀ z ∈ zs, SecAt K H z.1 z.2 0 0) ∧
  (∀ z ∈ zs, z.2.type ≠ 8 → z.2.offset + z.2.size ≤ b.length) ∧ zs.length ≤ 1024 ∧ SqL K H m xs ∧ (∀ j, (∃ s : Sn17.Sec, (zs.map (·.2))[j]? = some s ∧ s.type = 2) ↔ j = k) ∧
  (∀ ls, ((zs.map (·.2)).filter fun s => s.type == Sn17.RELA).mapM (Mx.relTab b (zs.map (·.2)) xs.length k) = .ok ls → ∀ (p : Addr) (zr : List (Addr × Sn17.Rel)) (H' : Hp), H p = none → Ex H H' → H' p = some (.lst (zr.map fun z => V.ref z.1)) → zr.map (·.2) = ls.flatten → (∀ z ∈ zr, RelIn K H' zs z) → Q (.ref p) H') ∧
  ErrR K E (((zs.map (·.2)).filter fun s => s.type == Sn17.RELA).mapM (Mx.relTab b (zs.map (·.2)) xs.length k))
theorem ok_relocations_of (T : Tx K mg) : Cal P w K mg base 6 "relocations_of" (spRels K) := by
  obtain ⟨fd, F⟩ := T.d_relocations_of
  refine cal_of F T.g_relocations_of sc_relocations_of (fun vs H Q E h => ?_) (fun _ _ _ _ _ _ us hl => match us, hl with | [_, _, _], _ => rfl) (fun cdv A outer s H vs Q E hr h => ⟨_, (pss_cons (ps_set (i := 3) sc_relocations_of.nd rfl (Or.inl rfl) (pe_lst pa_nil))
      (pss_cons (ps_for (passes_of rfl) rfl (pi_listK (K := K) (pv 1)) (pg_name (i := 4) sc_relocations_of.nd rfl (Or.inl rfl)) (pss_one (ps_if (pt_cmpR op_eq (pe_fldK (K := K) (pv 4)) (pe_gi T.v_RELOCATIONS) (nomark _)) (pss_cons (ps_expr (pe_cal (ok_check T) (hr.mono (by decide)) (passes_call (takes_of rfl rfl rfl rfl) (fun _ _ _ _ h => h)) (pa_cons (pe_cmpR op_lt (pe_fldK (K := K) (pv 4)) (pe_callB (call_lenK (K := K)) (by rfl) T.b_len PySem.boot_len (pa_cons (pv 1) pa_nil)) (nomark _)) (pa_cons (pe_un un_neg pe_int) pa_nil))))
      (pss_cons (ps_expr (pe_cal (ok_check T) (hr.mono (by decide)) (passes_call (takes_of rfl rfl rfl rfl) (fun _ _ _ _ h => h)) (pa_cons (pe_and (pe_cmpR op_lt (pe_fldK (K := K) (pv 4)) (pe_callB (call_lenK (K := K)) (by rfl) T.b_len PySem.boot_len (pa_cons (pv 1) pa_nil)) (nomark _)) (pe_one (pe_cmpR op_eq (pe_fldK (K := K) (pe_ix (ix_listK (K := K)) (pv 1) (pe_fldK (K := K) (pv 4)) (fun _ _ => rfl))) (pe_gi T.v_SYMBOLS) (nomark _)))) (pa_cons (pe_un un_neg pe_int) pa_nil))))
      (pss_cons (ps_expr (pe_cal (ok_check T) (hr.mono (by decide)) (passes_call (takes_of rfl rfl rfl rfl) (fun _ _ _ _ h => h)) (pa_cons (pe_and (pe_cmpR op_eq (pe_fldK (K := K) (pv 4)) pe_int (nomark _)) (pe_one (pe_cmpR op_eq (pe_op op_mod (pe_fldK (K := K) (pv 4)) pe_int) pe_int (nomark _)))) (pa_cons (pe_un un_neg pe_int) pa_nil))))
      (pss_cons (ps_par (i := 5) (j := 6) (by rfl) sc_relocations_of.nd rfl rfl (by decide) rfl rfl (pa_cons (pe_ix (ix_listK (K := K)) (pv 1) (pe_fldK (K := K) (pv 4)) (fun _ _ => rfl)) (pa_cons (pe_cal (ok_bytes_of T) (hr.mono (by decide)) passL (pa_cons (pv 0) (pa_cons (pv 4) pa_nil))) pa_nil)) (by rfl))
      (pss_one (ps_for (passes_of rfl) rfl (pi_range1 (by rfl) T.b_range (pa_cons (pe_ifExp (pt_val (pe_met0 (ok_Section_is_loaded T) (hr.mono (by decide)) passL (pv 5))) (pe_op op_fdiv (pe_fldK (K := K) (pv 4)) pe_int) pe_int) pa_nil)) (pg_name (i := 7) sc_relocations_of.nd rfl (Or.inl rfl)) (pss_cons (ps_set (i := 8) sc_relocations_of.nd rfl (Or.inl rfl) (pe_mak (ok_Relocation_init T) (hr.mono (by decide)) passL (pa_cons (pe_slice (sl_listK (K := K)) (pv 6) (po_some (pe_op op_mul pe_int (pv 7))) (po_some (pe_op op_add (pe_op op_mul pe_int (pv 7)) pe_int))) (pa_cons (pv 5) pa_nil))))
      (pss_cons (ps_expr (pe_cal (ok_check T) (hr.mono (by decide)) (passes_call (takes_of rfl rfl rfl rfl) (fun _ _ _ _ h => h)) (pa_cons (pe_cmpR (op_inK (K := K)) (pe_fldK (K := K) (pv 8)) (pe_gr T.g_KINDS) (by rfl)) (pa_cons (pe_un un_neg pe_int) pa_nil))))
      (pss_cons (ps_expr (pe_cal (ok_check T) (hr.mono (by decide)) (passes_call (takes_of rfl rfl rfl rfl) (fun _ _ _ _ h => h)) (pa_cons (pe_and (pe_cmpR op_lt (pe_fldK (K := K) (pv 8)) (pe_callB (call_lenK (K := K)) (by rfl) T.b_len PySem.boot_len (pa_cons (pv 2) pa_nil)) (nomark _)) (pe_one (pe_cmpR op_ne (pe_fldK (K := K) (pv 5)) (pe_gi T.v_ZEROS) (nomark _)))) (pa_cons (pe_un un_neg pe_int) pa_nil))))
      (pss_cons (ps_expr (pe_cal (ok_check T) (hr.mono (by decide)) (passes_call (takes_of rfl rfl rfl rfl) (fun _ _ _ _ h => h)) (pa_cons (pe_cmpR op_le (pe_op op_add (pe_fldK (K := K) (pv 8)) (pe_met0 (ok_Relocation_width T) (hr.mono (by decide)) passL (pv 8))) (pe_fldK (K := K) (pv 5)) (nomark _)) (pa_cons (pe_un un_neg pe_int) pa_nil))))
      (pss_one (ps_expr (pe_bmK (K := K) PySem.F.plainAttrs_list PySem.F.slot_list_append PySem.F.type_list_append mt_append (pv 3) (pa_cons (pv 8) pa_nil)))))))))))))) pss_nil)))
      (pss_one (ps_ret (pv 3))))), ?_⟩)
  · obtain ⟨a, l, m, b, zs, xs, k, rfl, _⟩ := h
    rfl
  · obtain ⟨a, l, m, b, zs, xs, k, rfl, hR, hL, hS, hw, hz, hM, hk, q1, q2⟩ := h
    have hbl := hR.len
    have hlen : (zsL zs).length = zs.length := List.length_map _
    refine q_asgL (el_lst ea_nil (by decide)) fun fp H1 hfp e1 h1 => ?_
    refine q_forM (L := zs) (f := fun z => V.ref z.1) (ev_var rfl) (ex_l e1 hL) (fun pre σ' H' => ∃ (v4 v5 v6 v7 v8 : Option V) (zr : List (Addr × Sn17.Rel)) (ls : List (List Sn17.Rel)), σ' = [some (.ref a), some (.ref l), some (.ref m), some (.ref fp), v4, v5, v6, v7, v8] ∧ Ex H H' ∧ H' fp = some (.lst (zr.map fun z => V.ref z.1)) ∧
      ((pre.map (·.2)).filter fun s => s.type == Sn17.RELA).mapM (Mx.relTab b (zs.map (·.2)) xs.length k) = .ok ls ∧ zr.map (·.2) = ls.flatten ∧ (∀ z ∈ zr, RelIn K H' zs z) ∧ zr.length ≤ 2731 * pre.length)
      (fun H2 e2 => ⟨none, none, none, none, none, [], [], rfl, e1.trans e2, e2 _ _ h1, rfl, rfl, (fun z hz => nomatch hz), by simp⟩) (fun pre σ' H' p => by
        obtain ⟨_, _, _, _, _, _, _, _, e, _⟩ := p
        exact ex_l e hL) ?_ ?_
    rotate_left
    · rintro σ' H' ⟨v4, v5, v6, v7, v8, zr, ls, rfl, e, hf, hm, hfl, hin, _⟩
      exact s_ret (ev_var rfl) fun H2 e2 => q1 ls hm fp zr H2 hfp (e.trans e2) (e2 _ _ hf) hfl fun z m => (hin z m).mono e2
    rintro pre ⟨oa, t⟩ post σ' H' hsp ⟨v4, v5, v6, v7, v8, zr, ls, rfl, e, hf, hm, hfl, hin, hzl⟩
    have hmem : (oa, t) ∈ zs := by rw [hsp]; simp
    have St := (hS _ hmem).mono e
    have hpl : pre.length < 1024 := by
      have z := congrArg List.length hsp
      rw [List.length_append, List.length_cons] at z
      omega
    refine s_when (et_eqN (ev_fl (ev_var rfl) (fl_Section_sort_of T St)) (ev_kN 4)) (fun c0 H2 e2 => ?_) (fun c0 H2 e2 => ?_)
    rotate_left
    · have d0 : ¬ t.type = 4 := of_decide_eq_false c0
      refine ⟨_, v5, v6, v7, v8, zr, ls, rfl, e.trans e2, e2 _ _ hf, ?_, hfl, fun z m => (hin z m).mono e2, ?_⟩
      · rw [List.map_append, List.filter_append]
        have z : ([(oa, t)].map (·.2)).filter (fun s => s.type == Sn17.RELA) = [] := by
          rw [List.map_cons, List.filter_cons, if_neg (by simpa [Sn17.RELA] using d0)]
          rfl
        rw [z, List.append_nil]
        exact hm
      · rw [List.length_append]
        show _ ≤ 2731 * (pre.length + 1)
        omega
    have d0 : t.type = 4 := of_decide_eq_true c0
    have hfz : (zs.map (·.2)).filter (fun s => s.type == Sn17.RELA) = (pre.map (·.2)).filter (fun s => s.type == Sn17.RELA) ++ t :: (post.map (·.2)).filter (fun s => s.type == Sn17.RELA) := by
      rw [hsp, List.map_append, List.filter_append, List.map_cons, List.filter_cons, if_pos (by simp [Sn17.RELA, d0])]
    have bad : ∀ {er : Sn17.Bad}, Mx.relTab b (zs.map (·.2)) xs.length k t = .error er → Err K E er.code := fun {er} he => q2 er (by
      rw [hfz]
      exact Mx.mapM_err hm he)
    have e02 := e.trans e2
    have S2 := St.mono e2
    -- the section to which they apply
    refine q_check (ev_ltN (ev_fl (ev_var rfl) (fl_Section_info T S2)) (ev_lenL (ev_var rfl) (ex_l e02 hL))) (ev_neg (-3)) (fun c1 H3 e3 => ?_) (fun c1 => ?_)
    rotate_left
    · have z : ¬ t.info < (zsL zs).length := of_decide_eq_false c1
      rw [hlen] at z
      refine bad (er := .form) ?_
      unfold Mx.relTab
      rw [List.getElem?_eq_none (by rw [List.length_map]; omega)]
    have d1 : t.info < (zsL zs).length := of_decide_eq_true c1
    rw [hlen] at d1
    obtain ⟨⟨ca, s⟩, hcs⟩ : ∃ z, zs[t.info]? = some z := ⟨_, List.getElem?_eq_getElem d1⟩
    have hcx : (zsL zs)[t.info]? = some (.ref ca) := by
      unfold zsL
      rw [List.getElem?_map, hcs]
      rfl
    have hsx : (zs.map (·.2))[t.info]? = some s := by
      rw [List.getElem?_map, hcs]
      rfl
    have htab : Mx.relTab b (zs.map (·.2)) xs.length k t = if t.link ≠ k ∨ t.entry ≠ 24 ∨ t.size % 24 ≠ 0 then .error .form else (List.range (if s.loads = true then t.size / 24 else 0)).mapM (Mx.relStep xs.length t.info s (Mx.cutOf b t)) := by
      unfold Mx.relTab
      rw [hsx]
    have e03 := e02.trans e3
    have S3 := S2.mono e3
    -- the linked section
    have link : ∀ {tz : TS} {D : Ends}, (t.link = k → ∀ H4, Ex H3 H4 → tz D [some (.ref a), some (.ref l), some (.ref m), some (.ref fp), some (.ref oa), v5, v6, v7, v8] H4) → (t.link ≠ k → Err K E (-3)) → tSeq (tDrop (tCall (spCheck K) [] E (tCons (tAndV (tOp (rI0 fun i j => .bl (decide (i < j))) (tFld K (tVar 4) "linked") (tCB (rLenS K) (tCons (tVar 1) tNil))) (tOp rEq (tFld K (tOp (rIxL K) (tVar 1) (tFld K (tVar 4) "linked")) "sort_of") (tC (.int 2)))) (tCons (tUn (rU fun i => .int (-i)) (tC (.int 3))) tNil)))) tz D [some (.ref a), some (.ref l), some (.ref m), some (.ref fp), some (.ref oa), v5, v6, v7, v8] H3 := by
      intro tz D kt kf
      by_cases hlt : t.link < zs.length
      · obtain ⟨⟨na, s2⟩, hns⟩ : ∃ z, zs[t.link]? = some z := ⟨_, List.getElem?_eq_getElem hlt⟩
        have Sn := (hS _ (List.mem_of_getElem? hns)).mono e03
        have hix : (zsL zs)[t.link]? = some (.ref na) := by
          unfold zsL
          rw [List.getElem?_map, hns]
          rfl
        have hsx2 : (zs.map (·.2))[t.link]? = some s2 := by
          rw [List.getElem?_map, hns]
          rfl
        have iff : s2.type = 2 ↔ t.link = k := by
          constructor
          · intro z
            exact (hk t.link).mp ⟨s2, hsx2, z⟩
          · intro z
            obtain ⟨s3, h3, h4⟩ := (hk t.link).mpr z
            rw [hsx2] at h3
            cases h3
            exact h4
        refine q_check (b := decide (t.link < (zsL zs).length) && decide (s2.type = 2)) (ev_andV (ev_ltN (ev_fl (ev_var rfl) (fl_Section_linked T S3)) (ev_lenL (ev_var rfl) (ex_l e03 hL))) fun _ => ev_eqN (ev_fl (ev_ixL (ev_var rfl) (ex_l e03 hL) (ev_fl (ev_var rfl) (fl_Section_linked T S3)) hix) (fl_Section_sort_of T Sn)) (ev_kN 2)) (ev_neg (-3)) (fun c H4 e4 => kt ?_ H4 e4) (fun c => kf ?_)
        · rw [Bool.and_eq_true] at c
          exact iff.mp (of_decide_eq_true c.2)
        · rw [hlen, decide_eq_true hlt, Bool.true_and] at c
          exact fun z => of_decide_eq_false c (iff.mpr z)
      · refine q_check (b := decide (t.link < (zsL zs).length) && true) (ev_andV (ev_ltN (ev_fl (ev_var rfl) (fl_Section_linked T S3)) (ev_lenL (ev_var rfl) (ex_l e03 hL))) fun z => absurd (of_decide_eq_true z) (by rw [hlen]; exact hlt)) (ev_neg (-3)) (fun c => ?_) (fun c => kf fun z => ?_)
        · rw [Bool.and_true] at c
          exact absurd (of_decide_eq_true c) (by rw [hlen]; exact hlt)
        · obtain ⟨s3, h3, _⟩ := (hk t.link).mpr z
          have := (List.getElem?_eq_some_iff.mp h3).1
          rw [List.length_map] at this
          exact hlt this
    refine link (fun d2 H4 e4 => ?_) (fun d2 => ?_)
    rotate_left
    · refine bad (er := .form) ?_
      rw [htab, if_pos (.inl d2)]
    have S4 := S3.mono e4
    refine q_check (b := decide (t.entry = 24) && decide (t.size % 24 = 0)) (ev_andV (ev_eqN (ev_fl (ev_var rfl) (fl_Section_entry T S4)) (ev_kN 24)) fun _ => ev_eqN (ev_modN (ev_fl (ev_var rfl) (fl_Section_size T S4)) (ev_kN 24) (by decide)) (ev_kN 0)) (ev_neg (-3)) (fun c3 H5 e5 => ?_) (fun c3 => ?_)
    rotate_left
    · refine bad (er := .form) ?_
      rw [htab, if_pos]
      by_cases z : t.entry = 24
      · simp [z] at c3
        exact .inr (.inr c3)
      · exact .inr (.inl z)
    have d3 : t.entry = 24 ∧ t.size % 24 = 0 := by
      rw [Bool.and_eq_true] at c3
      exact ⟨of_decide_eq_true c3.1, of_decide_eq_true c3.2⟩
    rw [if_neg (by rintro (z | z | z); exact z d2; exact z d3.1; exact z d3.2)] at htab
    have e05 := (e03.trans e4).trans e5
    have S5 := S4.mono e5
    have Sc5 := (hS _ (List.mem_of_getElem? hcs)).mono e05
    -- target, entries
    refine (ev_ixL (K := K) (v := .ref ca) (ev_var rfl) (ex_l e05 hL) (ev_fl (ev_var rfl) (fl_Section_info T S5)) hcx) H5 (Ex.refl H5) _ fun H6 e6 => ?_
    refine (el_bytes ((hR.mono e05).mono e6) (S5.mono e6) (ev_var rfl) (ev_var rfl)) H6 (Ex.refl H6) _ fun ep H7 hep e7 h7 => ⟨_, _, rfl, ?_⟩
    have hf7 := e7 _ _ (e6 _ _ (e5 _ _ (e4 _ _ (e3 _ _ (e2 _ _ hf)))))
    have e07 := (e05.trans e6).trans e7
    have S7 := (S5.mono e6).mono e7
    have Sc7 := (Sc5.mono e6).mono e7
    have nef : ep ≠ fp := fun z => by
      subst z
      rw [e6 _ _ (e5 _ _ (e4 _ _ (e3 _ _ (e2 _ _ hf))))] at hep
      cases hep
    have hsz : t.offset + t.size ≤ b.length := hw _ hmem (by rw [d0]; decide)
    have hel : (Mx.cutOf b t).length = t.size := by
      unfold Mx.cutOf
      rw [List.length_take, List.length_drop]
      omega
    have hby : ∀ x ∈ Mx.cutOf b t, x < 256 := fun x hx => hR.by_ x (List.mem_of_mem_drop (List.mem_of_mem_take hx))
    generalize hn : (if s.loads = true then t.size / 24 else 0) = n at htab
    have hnle : n ≤ t.size / 24 := by
      rw [← hn]
      split
      · exact Nat.le_refl _
      · exact Nat.zero_le _
    have hin7 : ∀ z ∈ zr, RelIn K H7 zs z := fun z m => (hin z m).mono (((((e2.trans e3).trans e4).trans e5).trans e6).trans e7)
    refine s_forR1 (n := (n : Int)) (ea_cons (ev_is (ev_ifs (et_B (ev_loaded Sc7 (ev_var rfl))) (fun _ => ev_fdivN (ev_fl (ev_var rfl) (fl_Section_size T S7)) (ev_kN 24) (by decide) (by decide)) (fun _ => ev_kN 0)) (by rw [← hn]; split <;> rfl)) ea_nil) ⟨by omega, by omega⟩
      (fun i σ' H' => ∃ (v7 v8 : Option V) (zn : List (Addr × Sn17.Rel)), σ' = [some (.ref a), some (.ref l), some (.ref m), some (.ref fp), some (.ref oa), some (.ref ca), some (.ref ep), v7, v8] ∧ Up fp H7 H' ∧ H' fp = some (.lst ((zr ++ zn).map fun z => V.ref z.1)) ∧
        (List.range i).mapM (Mx.relStep xs.length t.info s (Mx.cutOf b t)) = .ok (zn.map (·.2)) ∧ ∀ z ∈ zn, RelIn K H' zs z)
      (fun H8 e8 => ⟨v7, v8, [], rfl, Up.ex e8, by rw [List.append_nil]; exact e8 _ _ hf7, rfl, fun z hz => nomatch hz⟩) ?_ ?_
    · rintro i σ' H' hi ⟨v7', v8', zn, rfl, u, hf', hm', hin'⟩
      have hi' : i < n := by omega
      have h24 := Mx.div_mul24 (Nat.lt_of_lt_of_le hi' hnle)
      have hent : (Mx.ent (Mx.cutOf b t) i).length = 24 := ent_len (by omega)
      have bad' : ∀ {er : Sn17.Bad}, Mx.relStep xs.length t.info s (Mx.cutOf b t) i = .error er → Err K E er.code := fun {er} he => bad (by
        rw [htab]
        exact mapM_stop hi' hm' he)
      have hep' : H' ep = some (.lst (iv (Mx.cutOf b t))) := u _ _ h7 nef
      have Sc' := u.secA hf7 Sc7
      have eH' : Ex H H' := Up.exF hfp e07 u
      have hznl : zn.length = i := by
        have z := Mx.mapM_len hm'
        rw [List.length_map, List.length_range] at z
        exact z
      -- entry = Relocation(..)
      refine (el_ent (i := i) (e := Mx.cutOf b t) (p := ep) (ev_var rfl) (SqL.of hep') (ev_mulN (ev_kN 24) (ev_var rfl) (.inl (by decide))) (ev_addN (ev_mulN (ev_kN 24) (ev_var rfl) (.inl (by decide))) (ev_kN 24))) H' (Ex.refl H') _ fun r Ha _ ea ha => ?_
      refine ⟨.ref ca, rfl, ?_⟩
      have Rr : Rw K Ha r (Mx.ent (Mx.cutOf b t) i) := rw_ent (b := b) hby ha
      intro o dx no nd ne
      refine ⟨o, dx, r, ca, _, rfl, upd_same, Rr.mono (fun c u hc => by rw [upd_ne (ne_of_none hc no), upd_ne (ne_of_none hc nd)]; exact hc), hent, fun He he ue => ⟨rfl, ?_⟩⟩
      have ede : Ex Ha He := Up.made no nd ue
      have So : RelAt K He o (Mx.relOf (Mx.ent (Mx.cutOf b t) i) t.info) ca := ⟨dx, he⟩
      have e1e := ea.trans ede
      generalize hrel : Mx.relOf (Mx.ent (Mx.cutOf b t) i) t.info = rel at So
      have hstep : Mx.relStep xs.length t.info s (Mx.cutOf b t) i = (if [0, 1, 2, 4, 10, 11, 24].contains rel.type = false then .error .kind else if xs.length ≤ rel.sym ∨ s.type = 8 then .error .form else if s.size < rel.offset + Mx.widthOf rel.type then .error .form else .ok rel) := by
        unfold Mx.relStep
        rw [hrel]
      -- its kind
      refine q_check (b := [0, 1, 2, 4, 10, 11, 24].contains rel.type) (ev_is (ev_op (ev_fl (ev_var rfl) (fl_Relocation_kind T So)) ev_c (rv_isT (T.t_KINDS He) rfl (flat_iv _))) (by rw [inV_iv])) (ev_neg (-4)) (fun k1 Hf ef => ?_) (fun k1 => ?_)
      rotate_left
      · refine bad' (er := .kind) ?_
        rw [hstep, if_pos k1]
      rw [if_neg (by rw [k1]; decide)] at hstep
      have Sf := So.mono ef
      have ScF := (Sc'.mono e1e).mono ef
      have LF : SqL K Hf m xs := ex_l ((eH'.trans e1e).trans ef) hM
      refine q_check (b := decide (rel.sym < xs.length) && !decide (s.type = 8)) (ev_andV (ev_ltN (ev_fl (ev_var rfl) (fl_Relocation_symbol T Sf)) (ev_lenL (ev_var rfl) LF)) fun _ => ev_neN (ev_fl (ev_var rfl) (fl_Section_sort_of T ScF)) (ev_kN 8)) (ev_neg (-3)) (fun k2 Hg eg => ?_) (fun k2 => ?_)
      rotate_left
      · refine bad' (er := .form) ?_
        rw [hstep, if_pos]
        by_cases z : rel.sym < xs.length
        · simp [z] at k2
          exact .inr k2
        · exact .inl (by omega)
      rw [if_neg (by
        rw [Bool.and_eq_true] at k2
        have z1 := of_decide_eq_true k2.1
        have z2 : ¬ s.type = 8 := by simpa using k2.2
        rintro (z | z)
        · omega
        · exact z2 z)] at hstep
      have Sg := Sf.mono eg
      have ScG := ScF.mono eg
      refine q_check (b := decide (rel.offset + Mx.widthOf rel.type ≤ s.size)) (ev_leN (ev_addN (ev_fl (ev_var rfl) (fl_Relocation_offset T Sg)) (ev_width Sg (ev_var rfl))) (ev_fl (ev_var rfl) (fl_Section_size T ScG))) (ev_neg (-3)) (fun k3 Hh eh => ?_) (fun k3 => ?_)
      rotate_left
      · refine bad' (er := .form) ?_
        have z := of_decide_eq_false k3
        rw [hstep, if_pos (by omega)]
      rw [if_neg (by have z := of_decide_eq_true k3; omega)] at hstep
      have e1h := ((e1e.trans ef).trans eg).trans eh
      have hfh := e1h _ _ hf'
      refine s_appW hfh (ev_var rfl) (ev_var rfl) (by rw [List.length_map, List.length_append]; omega) fun Hi ei => ?_
      have hfi := ei _ _ hfh
      have uu : Up fp Hi (upd Hi fp (.lst ((zr ++ zn).map (fun z => V.ref z.1) ++ [.ref o]))) := (Up.refl fp Hi).upd
      refine ⟨_, _, zn ++ [(o, rel)], rfl, (u.trans (Up.ex (e1h.trans ei))).trans uu, ?_, ?_, ?_⟩
      · rw [upd_same, ← List.append_assoc, List.map_append (l₂ := [(o, rel)])]
        rfl
      · rw [List.map_append]
        exact mapM_more hm' hstep
      · intro z hzm
        rcases List.mem_append.mp hzm with q | q
        · exact RelIn.up ((hin' z q).mono (e1h.trans ei)) uu hfi
        · have ez : z = (o, rel) := by simpa using q
          subst ez
          refine RelIn.up ⟨ca, s, ?_, (Sg.mono eh).mono ei⟩ uu hfi
          show zs[rel.sec]? = _
          rw [← hrel]
          exact hcs
    · rintro σ' H' ⟨v7', v8', zn, rfl, u, hf', hm', hin'⟩
      have hm2 : (List.range n).mapM (Mx.relStep xs.length t.info s (Mx.cutOf b t)) = .ok (zn.map (·.2)) := hm'
      have hznl : zn.length = n := by
        have z := Mx.mapM_len hm2
        rw [List.length_map, List.length_range] at z
        exact z
      refine ⟨_, _, _, _, _, zr ++ zn, ls ++ [zn.map (·.2)], rfl, Up.exF hfp e07 u, hf', ?_, ?_, ?_, ?_⟩
      · rw [List.map_append, List.filter_append]
        have z : ([(oa, t)].map (·.2)).filter (fun s => s.type == Sn17.RELA) = [t] := by
          rw [List.map_cons, List.filter_cons, if_pos (by simp [Sn17.RELA, d0])]
          rfl
        rw [z]
        exact Mx.mapM_snoc hm (htab.trans hm2)
      · rw [List.map_append, List.flatten_append, hfl]
        simp
      · intro z hzm
        rcases List.mem_append.mp hzm with q | q
        · exact RelIn.up (hin7 z q) u hf7
        · exact hin' z q
      · rw [List.length_append, List.length_append]
        show _ ≤ 2731 * (pre.length + 1)
        omega
end
end Lk

/-! # Plain law: whole objects, bytes by sizes -/
namespace Mx
open Sn17
theorem secRaw_len {b : Bytes} {l : List Sec} (h : secRaw b = .ok l) : 64 * l.length ≤ b.length := by
  unfold secRaw at h
  split at h
  · cases h
  · split at h
    · cases h
    · split at h
      · cases h
      · rename_i h1 h2 h3
        have e := Except.ok.inj h
        rw [← e, List.length_map, List.length_range]
        omega
theorem secOk_all {b : Bytes} {l : List Sec} (h : secOk b l = .ok ()) : (∀ s ∈ l, good1 b s = true) ∧ ∀ s ∈ l, bad1 s = false := by
  refine ⟨fun s hs => ?_, fun s hs => ?_⟩
  · cases e : good1 b s with
    | true => rfl
    | false =>
      rw [secOk_form hs e] at h
      cases h
  · cases e : bad1 s with
    | false => rfl
    | true =>
      have hg : ∀ s ∈ l, good1 b s = true := fun s hs => by
        cases e : good1 b s with
        | true => rfl
        | false =>
          rw [secOk_form hs e] at h
          cases h
      rw [secOk_kind hg hs e] at h
      cases h
theorem good1_in {b : Bytes} {s : Sec} (h : good1 b s = true) (h8 : s.type ≠ 8) : s.offset + s.size ≤ b.length := by
  unfold good1 at h
  rw [Bool.and_eq_true] at h
  have h1 : (s.type == NOBITS || decide (s.offset + s.size ≤ b.length)) = true := h.1
  rw [Bool.or_eq_true] at h1
  rcases h1 with z | z
  · exact absurd (eq_of_beq z) h8
  · exact of_decide_eq_true z
theorem symRaw_one {b : Bytes} {l : List Sec} {ys : List Sym} (h : symRaw b l = .ok ys) : ∃ t, (l.filter fun s => decide (s.type = 2)) = [t] := by
  unfold symRaw at h
  split at h
  · rename_i t ht
    exact ⟨t, ht⟩
  · cases h
/-- the parts of an object that is read -/
theorem object_ok {b : Bytes} {l : List Sec} {ys : List Sym} {t : Sec} {k : Nat} (h1 : secRaw b = .ok l) (h2 : secOk b l = .ok ()) (h3 : symRaw b l = .ok ys) (h4 : l.zipIdx.filter (fun x => x.1.type == SYMTAB) = [(t, k)]) :
    object b = ((l.filter fun s => s.type == RELA).mapM (relTab b l ys.length k)).map fun r => ⟨l, ys, r.flatten, b⟩ := by
  rw [object_eq]
  unfold objRaw
  rw [h1]
  show (secOk b l).bind _ = _
  rw [h2]
  show (symRaw b l).bind _ = _
  rw [h3]
  show (match l.zipIdx.filter fun x => x.1.type == SYMTAB with | [t] => _ | _ => _) = _
  rw [h4]
theorem object_e1 {b : Bytes} {e : Bad} (h1 : secRaw b = .error e) : object b = .error e := by
  rw [object_eq]
  unfold objRaw
  rw [h1]
  rfl
theorem object_e2 {b : Bytes} {l : List Sec} {e : Bad} (h1 : secRaw b = .ok l) (h2 : secOk b l = .error e) : object b = .error e := by
  rw [object_eq]
  unfold objRaw
  rw [h1]
  show (secOk b l).bind _ = _
  rw [h2]
  rfl
theorem object_e3 {b : Bytes} {l : List Sec} {e : Bad} (h1 : secRaw b = .ok l) (h2 : secOk b l = .ok ()) (h3 : symRaw b l = .error e) : object b = .error e := by
  rw [object_eq]
  unfold objRaw
  rw [h1]
  show (secOk b l).bind _ = _
  rw [h2]
  show (symRaw b l).bind _ = _
  rw [h3]
  rfl
theorem cut_snoc : ∀ (pre : List Nat) (n : Nat) (b : Bytes), cut (pre ++ [n]) b = cut pre b ++ [(b.drop pre.sum).take n]
  | [], n, b => by
    show [b.take n] = [(b.drop 0).take n]
    rw [List.drop_zero]
  | m :: r, n, b => by
    have ih := cut_snoc r n (b.drop m)
    show b.take m :: cut (r ++ [n]) (b.drop m) = b.take m :: cut r (b.drop m) ++ [(b.drop (m :: r).sum).take n]
    rw [ih, List.sum_cons, List.drop_drop]
    rfl
theorem cut_mid (pre : List Nat) (n : Nat) (post : List Nat) (b : Bytes) : ∃ more, cut (pre ++ n :: post) b = cut pre b ++ (b.drop pre.sum).take n :: more := by
  induction pre generalizing b with
  | nil => exact ⟨cut post (b.drop n), by show b.take n :: _ = (b.drop 0).take n :: _; rw [List.drop_zero]⟩
  | cons m r ih =>
    obtain ⟨more, h⟩ := ih (b.drop m)
    refine ⟨more, ?_⟩
    show b.take m :: cut (r ++ n :: post) (b.drop m) = b.take m :: cut r (b.drop m) ++ _
    rw [h, List.sum_cons, List.drop_drop]
    rfl
end Mx

set_option Elab.async false
set_option linter.all false
set_option maxRecDepth 100000
set_option maxHeartbeats 4000000
/-! # Whole objects -/
namespace Lk
open PySem PySem.Spec PyProof.Rows L2 Evl He
structure OD where
  told : Addr
  row : Addr
  secs : Addr
  syms : Addr
  rels : Addr
  bytes : List Nat
  zs : List (Addr × Sn17.Sec)
  zy : List (Addr × Sn17.Sym)
  zr : List (Addr × Sn17.Rel)
def OD.obj (d : OD) : Sn17.Obj := ⟨d.zs.map (·.2), d.zy.map (·.2), d.zr.map (·.2), d.bytes⟩
def toldF (d : OD) : List (Str × V) := [("row", .ref d.row), ("sections", .ref d.secs), ("symbols", .ref d.syms), ("relocations", .ref d.rels)]
structure ObjAt (K : PySem.W.Frag) (H : Hp) (d : OD) (pl : Addr → Nat × Nat) : Prop where
  told : ∃ dx, H d.told = some (.ins (C_Told K) dx (toldF d))
  row : Rw K H d.row d.bytes
  secs : H d.secs = some (.lst (zsL d.zs))
  syms : H d.syms = some (.lst (d.zy.map fun z => V.ref z.1))
  rels : H d.rels = some (.lst (d.zr.map fun z => V.ref z.1))
  sec : ∀ z ∈ d.zs, SecAt K H z.1 z.2 (pl z.1).1 (pl z.1).2
  sym : ∀ z ∈ d.zy, SymAt K H z.1 z.2
  rel : ∀ z ∈ d.zr, RelIn K H d.zs z
def pl0 : Addr → Nat × Nat := fun _ => (0, 0)
section
variable {P : Program} {w : World} {K : PySem.W.Frag} {mg : Str → Option Value} {base : Heap}
theorem ObjAt.mono {H H' : Hp} {d : OD} {pl : Addr → Nat × Nat} (h : ObjAt K H d pl) (e : Ex H H') : ObjAt K H' d pl :=
  ⟨h.told.elim fun dx q => ⟨dx, e _ _ q⟩, h.row.mono e, e _ _ h.secs, e _ _ h.syms, e _ _ h.rels, fun z m => (h.sec z m).mono e, fun z m => (h.sym z m).mono e, fun z m => (h.rel z m).mono e⟩
theorem fl_Told_row (T : Tx K mg) {H : Hp} {d : OD} {dx : Addr} (h : H d.told = some (.ins (C_Told K) dx (toldF d))) : Fl K H d.told "row" (.ref d.row) := ⟨_, dx, _, h, T.c_Told, T.n_Told_row, lk_at (ks := ["row", "sections", "symbols", "relocations"]) (i := 0) rfl (by decide +kernel) rfl⟩
theorem fl_Told_sections (T : Tx K mg) {H : Hp} {d : OD} {dx : Addr} (h : H d.told = some (.ins (C_Told K) dx (toldF d))) : Fl K H d.told "sections" (.ref d.secs) := ⟨_, dx, _, h, T.c_Told, T.n_Told_sections, lk_at (ks := ["row", "sections", "symbols", "relocations"]) (i := 1) rfl (by decide +kernel) rfl⟩
theorem fl_Told_symbols (T : Tx K mg) {H : Hp} {d : OD} {dx : Addr} (h : H d.told = some (.ins (C_Told K) dx (toldF d))) : Fl K H d.told "symbols" (.ref d.syms) := ⟨_, dx, _, h, T.c_Told, T.n_Told_symbols, lk_at (ks := ["row", "sections", "symbols", "relocations"]) (i := 2) rfl (by decide +kernel) rfl⟩
theorem fl_Told_relocations (T : Tx K mg) {H : Hp} {d : OD} {dx : Addr} (h : H d.told = some (.ins (C_Told K) dx (toldF d))) : Fl K H d.told "relocations" (.ref d.rels) := ⟨_, dx, _, h, T.c_Told, T.n_Told_relocations, lk_at (ks := ["row", "sections", "symbols", "relocations"]) (i := 3) rfl (by decide +kernel) rfl⟩
/-- an object as it is made: its lists, its sections new -/
structure ObjNew (K : PySem.W.Frag) (H H' : Hp) (d : OD) : Prop where
  at_ : ObjAt K H' d pl0
  nd : (d.zs.map (·.1)).Nodup
  fz : ∀ z ∈ d.zs, H z.1 = none
  fs : H d.secs = none
  fy : H d.syms = none
  fr : H d.rels = none
def spTold (K : PySem.W.Frag) : Sp := fun vs H Q E => ∃ (p dx a : Addr) (b : List Nat), vs = [.ref p, .ref a] ∧ H p = some (.ins (C_Told K) dx []) ∧ Rw K H a b ∧
  (∀ o, Sn17.object b = .ok o → ∀ (d : OD) (H' : Hp), d.told = p → d.row = a → d.obj = o → ObjNew K H H' d → Up p H H' → Q .non H') ∧ ErrR K E (Sn17.object b)
/-- o.f = g(..), what raises in g leaves by E -/
theorem q_fldX {E : XK} {sp : Sp} {σ : L2.St} {H : Hp} {ta : TE} {at_ : TA} {vs : List V} {tz : TS} {D : Ends} {f : Str} (h : EvA at_ σ H vs) (k : ∀ H1, Ex H H1 → sp vs H1 (fun y H2 => ta σ H2 fun x H3 => ∃ a C dx fs, x = .ref a ∧ H3 a = some (.ins C dx fs) ∧ Cls K C ∧ NoAttr K C f ∧ fs.length < 1000 ∧ tz D σ (upd H3 a (.ins C dx (putF f y fs)))) E) :
    tSeq (sFld K ta (tCall sp [] E at_) f) tz D σ H := h H (Ex.refl H) _ fun H1 e1 => by
  rw [List.append_nil]
  exact k H1 e1
theorem e_fldX {E : XK} {sp : Sp} {σ : L2.St} {H : Hp} {ta : TE} {at_ : TA} {vs : List V} {D : Ends} {f : Str} (h : EvA at_ σ H vs) (k : ∀ H1, Ex H H1 → sp vs H1 (fun y H2 => ta σ H2 fun x H3 => ∃ a C dx fs, x = .ref a ∧ H3 a = some (.ins C dx fs) ∧ Cls K C ∧ NoAttr K C f ∧ fs.length < 1000 ∧ D.nx σ (upd H3 a (.ins C dx (putF f y fs)))) E) :
    sFld K ta (tCall sp [] E at_) f D σ H := h H (Ex.refl H) _ fun H1 e1 => by
  rw [List.append_nil]
  exact k H1 e1
theorem told_put (v1 v2 v3 v4 : V) : putF "relocations" v4 (putF "symbols" v3 (putF "sections" v2 (putF "row" v1 []))) = ([("row", v1), ("sections", v2), ("symbols", v3), ("relocations", v4)] : List (Str × V)) := by rfl
theorem told_put1 (v1 : V) : putF "row" v1 [] = ([("row", v1)] : List (Str × V)) := rfl
theorem told_put2 (v1 v2 : V) : putF "sections" v2 [("row", v1)] = ([("row", v1), ("sections", v2)] : List (Str × V)) := by rfl
theorem told_put3 (v1 v2 v3 : V) : putF "symbols" v3 [("row", v1), ("sections", v2)] = ([("row", v1), ("sections", v2), ("symbols", v3)] : List (Str × V)) := by rfl
theorem told_put4 (v1 v2 v3 v4 : V) : putF "relocations" v4 [("row", v1), ("sections", v2), ("symbols", v3)] = ([("row", v1), ("sections", v2), ("symbols", v3), ("relocations", v4)] : List (Str × V)) := by rfl
theorem Up.insSec {p a : Addr} {H H' : Hp} {C dx : Addr} {fs : List (Str × V)} {s : Sn17.Sec} {x y : Nat} (u : Up p H H') (n : a ≠ p) (h : SecAt K H a s x y) : SecAt K H' a s x y := by
  obtain ⟨dx, h⟩ := h
  exact ⟨dx, u _ _ h n⟩
theorem ok_Told_init (T : Tx K mg) : Mak P w K mg base 7 "Told" (C_Told K) (spTold K) := by
  obtain ⟨fd, F⟩ := T.d_Told_init
  refine mak_of F T.k_Told T.g_Told sc_Told_init (fun vs H Q E h => ?_) (fun _ _ _ _ _ _ us hl => match us, hl with | [_, _], _ => rfl) (fun cdv A outer s H vs Q E hr h => ⟨_, (pss_cons (ps_fldK (K := K) (pv 0) (pv 1))
      (pss_cons (ps_fldK (K := K) (pv 0) (pe_cal (ok_sections_of T) (hr.mono (by decide)) (passes_call (takes_of rfl rfl rfl rfl) (fun _ _ _ _ h => h)) (pa_cons (pv 1) pa_nil)))
      (pss_cons (ps_expr (pe_cal (ok_check_sections T) (hr.mono (by decide)) (passes_call (takes_of rfl rfl rfl rfl) (fun _ _ _ _ h => h)) (pa_cons (pe_fldK (K := K) (pv 0)) (pa_cons (pe_fldK (K := K) (pv 0)) pa_nil))))
      (pss_cons (ps_fldK (K := K) (pv 0) (pe_cal (ok_symbols_of T) (hr.mono (by decide)) (passes_call (takes_of rfl rfl rfl rfl) (fun _ _ _ _ h => h)) (pa_cons (pe_fldK (K := K) (pv 0)) (pa_cons (pe_fldK (K := K) (pv 0)) pa_nil))))
      (pss_one (ps_fldK (K := K) (pv 0) (pe_cal (ok_relocations_of T) (hr.mono (by decide)) (passes_call (takes_of rfl rfl rfl rfl) (fun _ _ _ _ h => h)) (pa_cons (pe_fldK (K := K) (pv 0)) (pa_cons (pe_fldK (K := K) (pv 0)) (pa_cons (pe_fldK (K := K) (pv 0)) pa_nil)))))))))), ?_⟩)
  · obtain ⟨p, dx, a, b, rfl, _⟩ := h
    rfl
  · obtain ⟨p, dx, a, b, rfl, hp, hR, q1, q2⟩ := h
    -- self.row = row
    refine q_fld (ev_var rfl) (ev_var rfl) hp T.c_Told T.n_Told_row (by decide) fun H1 e1 => ?_
    rw [told_put1]
    generalize hH1' : upd H1 p (.ins (C_Told K) dx [(("row" : Str), V.ref a)]) = H1'
    have u1 : Up p H H1' := by rw [← hH1']; exact (Up.ex e1).upd
    have p1 : H1' p = some (.ins (C_Told K) dx [(("row" : Str), V.ref a)]) := by rw [← hH1']; exact upd_same
    have R1 := hR.up u1 hp
    -- self.sections = sections_of(row)
    refine ⟨_, rfl, a, b, rfl, R1, fun l hl ps zs H2 S hz => ?_, fun e he => q2 e (Mx.object_e1 he)⟩
    have p2 := S.ex _ _ p1
    refine ⟨_, rfl, p, _, dx, _, rfl, p2, T.c_Told, T.n_Told_sections, (by show 1 < 1000; decide), ?_⟩
    rw [told_put2]
    generalize hH2' : upd H2 p (.ins (C_Told K) dx [(("row" : Str), V.ref a), ("sections", .ref ps)]) = H2'
    have u2 : Up p H1' H2' := by rw [← hH2']; exact (Up.ex S.ex).upd
    have p2' : H2' p = some (.ins (C_Told K) dx [(("row" : Str), V.ref a), ("sections", .ref ps)]) := by rw [← hH2']; exact upd_same
    have w2 : Up p H2 H2' := by rw [← hH2']; exact (Up.refl p H2).upd
    have R2 := R1.up u2 p1
    have neP : ∀ {c : Addr}, H1' c = none → c ≠ p := fun hc z => by rw [z, p1] at hc; cases hc
    have s2 : H2' ps = some (.lst (zsL zs)) := w2 _ _ S.at_ (neP S.new)
    have S2 : ∀ z ∈ zs, SecAt K H2' z.1 z.2 0 0 := fun z m => w2.insSec (C := 0) (dx := 0) (fs := []) (neP (S.fr z m)) (S.sec z m)
    have f2r : Fl K H2' p "row" (.ref a) := ⟨_, dx, _, p2', T.c_Told, T.n_Told_row, lk_at (ks := ["row", "sections"]) (i := 0) rfl (by decide +kernel) rfl⟩
    have f2s : Fl K H2' p "sections" (.ref ps) := ⟨_, dx, _, p2', T.c_Told, T.n_Told_sections, lk_at (ks := ["row", "sections"]) (i := 1) rfl (by decide +kernel) rfl⟩
    have hsecs : Mx.secRaw b = .ok (zs.map (·.2)) := by rw [hz]; exact hl
    have hzl : zs.length ≤ 1024 := by
      have z1 := Mx.secRaw_len hsecs
      have z2 := hR.len
      rw [List.length_map] at z1
      omega
    -- check_sections(..)
    refine q_cal (ea_cons (ev_fl (ev_var rfl) f2r) (ea_cons (ev_fl (ev_var rfl) f2s) ea_nil)) fun H3 e3 => ?_
    refine ⟨a, ps, b, zs, rfl, R2.mono e3, SqL.of (e3 _ _ s2), fun z m => (S2 z m).mono e3, fun hok H4 e4 => ?_, fun e he => q2 e (Mx.object_e2 hsecs he)⟩
    have e24 := e3.trans e4
    obtain ⟨hgood, hbad⟩ := Mx.secOk_all hok
    have hw : ∀ z ∈ zs, z.2.type ≠ 8 → z.2.offset + z.2.size ≤ b.length := fun z m h8 => Mx.good1_in (hgood z.2 (List.mem_map.mpr ⟨z, m, rfl⟩)) h8
    -- self.symbols = symbols_of(..)
    refine q_fldX (ea_cons (ev_fl (ev_var rfl) (f2r.mono e24)) (ea_cons (ev_fl (ev_var rfl) (f2s.mono e24)) ea_nil)) fun H5 e5 => ?_
    have e25 := e24.trans e5
    refine ⟨a, ps, b, zs, rfl, R2.mono e25, SqL.of (e25 _ _ s2), fun z m => (S2 z m).mono e25, hw, by omega, fun ys hys py zy H6 ny e6 hy hyz hyS => ?_, fun e he => q2 e (Mx.object_e3 hsecs hok he)⟩
    have e26 := e25.trans e6
    refine ⟨_, rfl, p, _, dx, _, rfl, e26 _ _ p2', T.c_Told, T.n_Told_symbols, (by show 2 < 1000; decide), ?_⟩
    rw [told_put3]
    generalize hH6' : upd H6 p (.ins (C_Told K) dx [(("row" : Str), V.ref a), ("sections", .ref ps), ("symbols", .ref py)]) = H6'
    have u6 : Up p H2' H6' := by rw [← hH6']; exact (Up.ex e26).upd
    have p6 : H6' p = some (.ins (C_Told K) dx [(("row" : Str), V.ref a), ("sections", .ref ps), ("symbols", .ref py)]) := by rw [← hH6']; exact upd_same
    have w6 : Up p H6 H6' := by rw [← hH6']; exact (Up.refl p H6).upd
    have ny2 : H2' py = none := fresh_back e25 ny
    have nep : ∀ {c : Addr}, H2' c = none → c ≠ p := fun hc z => by rw [z, p2'] at hc; cases hc
    have R6 := R2.up u6 p2'
    have neS : ps ≠ p := neP S.new
    have s6 : H6' ps = some (.lst (zsL zs)) := u6 _ _ s2 neS
    have S6 : ∀ z ∈ zs, SecAt K H6' z.1 z.2 0 0 := fun z m => u6.insSec (C := 0) (dx := 0) (fs := []) (neP (S.fr z m)) (S2 z m)
    have y6 : H6' py = some (.lst (zy.map fun z => V.ref z.1)) := w6 _ _ hy (nep ny2)
    have Y6 : ∀ z ∈ zy, SymAt K H6' z.1 z.2 := fun z m => by
      obtain ⟨dc, tc, h1, h2⟩ := hyS z m
      refine ⟨dc, tc, w6 _ _ h1 (ne_of h1 (e26 _ _ p2') fun z => ?_), w6 _ _ h2 (ne_of h2 (e26 _ _ p2') (fun z => nomatch z))⟩
      have zz := congrArg (fun o => match o with | HO.ins _ _ fs => fs.length | _ => 0) z
      exact absurd zz (by show ¬ 5 = 2; decide)
    have f6r : Fl K H6' p "row" (.ref a) := ⟨_, dx, _, p6, T.c_Told, T.n_Told_row, lk_at (ks := ["row", "sections", "symbols"]) (i := 0) rfl (by decide +kernel) rfl⟩
    have f6s : Fl K H6' p "sections" (.ref ps) := ⟨_, dx, _, p6, T.c_Told, T.n_Told_sections, lk_at (ks := ["row", "sections", "symbols"]) (i := 1) rfl (by decide +kernel) rfl⟩
    have f6y : Fl K H6' p "symbols" (.ref py) := ⟨_, dx, _, p6, T.c_Told, T.n_Told_symbols, lk_at (ks := ["row", "sections", "symbols"]) (i := 2) rfl (by decide +kernel) rfl⟩
    have hsyms : Mx.symRaw b (zs.map (·.2)) = .ok (zy.map (·.2)) := by rw [hyz]; exact hys
    obtain ⟨t, ht⟩ := Mx.symRaw_one hsyms
    obtain ⟨k, k1, k2, k3⟩ := Mx.only_one ht
    have hobj := Mx.object_ok hsecs hok hsyms k1
    have hxl : (zy.map fun z => V.ref z.1).length = (zy.map (·.2)).length := by rw [List.length_map, List.length_map]
    -- self.relocations = relocations_of(..)
    refine e_fldX (ea_cons (ev_fl (ev_var rfl) f6r) (ea_cons (ev_fl (ev_var rfl) f6s) (ea_cons (ev_fl (ev_var rfl) f6y) ea_nil))) fun H7 e7 => ?_
    refine ⟨a, ps, py, b, zs, _, k, rfl, R6.mono e7, SqL.of (e7 _ _ s6), fun z m => (S6 z m).mono e7, hw, hzl, SqL.of (e7 _ _ y6), k3, fun ls hls pr zr H8 nr e8 hr hrz hrS => ?_, fun e he => q2 e ?_⟩
    rotate_left
    · rw [hobj, ← hxl, he]
      rfl
    have e68 := e7.trans e8
    refine ⟨_, rfl, p, _, dx, _, rfl, e68 _ _ p6, T.c_Told, T.n_Told_relocations, (by show 3 < 1000; decide), ?_⟩
    rw [told_put4]
    generalize hH8' : upd H8 p (.ins (C_Told K) dx [(("row" : Str), V.ref a), ("sections", .ref ps), ("symbols", .ref py), ("relocations", .ref pr)]) = H8'
    have w8 : Up p H8 H8' := by rw [← hH8']; exact (Up.refl p H8).upd
    have p8 : H8' p = some (.ins (C_Told K) dx [(("row" : Str), V.ref a), ("sections", .ref ps), ("symbols", .ref py), ("relocations", .ref pr)]) := by rw [← hH8']; exact upd_same
    have u8 : Up p H6' H8' := (Up.ex e68).trans w8
    have nr6 : H6' pr = none := fresh_back e7 nr
    have ner : pr ≠ p := fun z => by rw [z, p6] at nr6; cases nr6
    have neY : py ≠ p := nep ny2
    have fb : ∀ {c : Addr}, c ≠ p → H1' c = none → H c = none := fun n h => by
      cases q : H _ with
      | none => rfl
      | some o =>
        rw [u1 _ _ q n] at h
        cases h
    have fb2 : ∀ {c : Addr}, c ≠ p → H2' c = none → H1' c = none := fun n h => by
      cases q : H1' _ with
      | none => rfl
      | some o =>
        rw [u2 _ _ q n] at h
        cases h
    have fb6 : ∀ {c : Addr}, c ≠ p → H6' c = none → H2' c = none := fun n h => by
      cases q : H2' _ with
      | none => rfl
      | some o =>
        rw [u6 _ _ q n] at h
        cases h
    refine q1 ⟨zs.map (·.2), zy.map (·.2), ls.flatten, b⟩ (by rw [hobj, ← hxl, hls]; rfl) ⟨p, a, ps, py, pr, b, zs, zy, zr⟩ H8' rfl rfl (by unfold OD.obj; rw [hrz]) ⟨⟨⟨dx, p8⟩, R6.up u8 p6, u8 _ _ s6 neS, u8 _ _ y6 neY, w8 _ _ hr ner, fun z m => u8.insSec (C := 0) (dx := 0) (fs := []) (neP (S.fr z m)) (S6 z m), fun z m => ?_, fun z m => ?_⟩, S.nd, fun z m => fb (neP (S.fr z m)) (S.fr z m), fb neS S.new, fb neY (fb2 neY ny2), fb ner (fb2 ner (fb6 ner nr6))⟩ ((u1.trans u2).trans (u6.trans u8))
    · obtain ⟨dc, tc, h1, h2⟩ := Y6 z m
      refine ⟨dc, tc, u8 _ _ h1 (ne_of h1 p6 fun z => ?_), u8 _ _ h2 (ne_of h2 p6 (fun z => nomatch z))⟩
      have zz := congrArg (fun o => match o with | HO.ins _ _ fs => fs.length | _ => 0) z
      exact absurd zz (by show ¬ 5 = 3; decide)
    · obtain ⟨c, s, h1, dr, h2⟩ := hrS z m
      refine ⟨c, s, h1, dr, w8 _ _ h2 (ne_of h2 (e68 _ _ p6) fun z => ?_)⟩
      have zz := congrArg (fun o => match o with | HO.ins _ _ fs => fs.length | _ => 0) z
      exact absurd zz (by show ¬ 5 = 3; decide)
end
end Lk

set_option Elab.async false
set_option linter.all false
set_option maxRecDepth 100000
set_option maxHeartbeats 4000000
/-! # All objects; the memory that they want -/
namespace Lk
open PySem PySem.Spec PyProof.Rows L2 Evl He
def dsL (ds : List OD) : List V := ds.map fun d => V.ref d.told
def allZs (ds : List OD) : List (Addr × Sn17.Sec) := ds.flatMap fun d => d.zs
/-- all objects stand, their sections placed as pl tells; no section is there twice -/
structure Wd (K : PySem.W.Frag) (H : Hp) (ds : List OD) (pl : Addr → Nat × Nat) : Prop where
  obj : ∀ d ∈ ds, ObjAt K H d pl
  nd : ((allZs ds).map (·.1)).Nodup
section
variable {P : Program} {w : World} {K : PySem.W.Frag} {mg : Str → Option Value} {base : Heap}
theorem Wd.mono {H H' : Hp} {ds : List OD} {pl : Addr → Nat × Nat} (h : Wd K H ds pl) (e : Ex H H') : Wd K H' ds pl := ⟨fun d m => (h.obj d m).mono e, h.nd⟩
/-- the lists of an object stand apart from the list p -/
def Apart (p : Addr) (d : OD) : Prop := d.row ≠ p ∧ d.secs ≠ p ∧ d.syms ≠ p ∧ d.rels ≠ p
theorem ObjAt.up {p : Addr} {H H' : Hp} {xs : List V} {d : OD} {pl : Addr → Nat × Nat} (h : ObjAt K H d pl) (n : Apart p d) (hp : H p = some (.lst xs)) (u : Up p H H') : ObjAt K H' d pl := by
  obtain ⟨dx, ht⟩ := h.told
  exact ⟨⟨dx, u _ _ ht (ne_of ht hp (fun z => nomatch z))⟩, u.rwA n.1 h.row, u _ _ h.secs n.2.1, u _ _ h.syms n.2.2.1, u _ _ h.rels n.2.2.2, fun z m => u.secA hp (h.sec z m), fun z m => by
    obtain ⟨dc, tc, h1, h2⟩ := h.sym z m
    exact ⟨dc, tc, u _ _ h1 (ne_of h1 hp (fun z => nomatch z)), u _ _ h2 (ne_of h2 hp (fun z => nomatch z))⟩, fun z m => (h.rel z m).up u hp⟩
theorem none_made {H : Hp} {x dx c : Addr} {o1 o2 : HO} (h : (upd (upd H dx o1) x o2) c = none) : H c = none := by
  by_cases h1 : c = x
  · subst h1
    rw [upd_same] at h
    cases h
  · rw [upd_ne h1] at h
    by_cases h2 : c = dx
    · subst h2
      rw [upd_same] at h
      cases h
    · rw [upd_ne h2] at h
      exact h
def spObjs (K : PySem.W.Frag) : Sp := fun vs H Q E => ∃ (a l : Addr) (sizes b : List Nat), vs = [.ref a, .ref l] ∧ SqL K H a (iv sizes) ∧ sizes.length ≤ 64 ∧ Rw K H l b ∧
  (∀ os, (Sn17.cut sizes b).mapM Sn17.object = .ok os → ∀ (p : Addr) (ds : List OD) (H' : Hp), H p = none → Ex H H' → H' p = some (.lst (dsL ds)) → ds.map OD.obj = os → Wd K H' ds pl0 → Q (.ref p) H') ∧
  ErrR K E ((Sn17.cut sizes b).mapM Sn17.object)
theorem ok_objects_of (T : Tx K mg) : Cal P w K mg base 9 "objects_of" (spObjs K) := by
  obtain ⟨fd, F⟩ := T.d_objects_of
  refine cal_of F T.g_objects_of sc_objects_of (fun vs H Q E h => ?_) (fun _ _ _ _ _ _ us hl => match us, hl with | [_, _], _ => rfl) (fun cdv A outer s H vs Q E hr h => ⟨_, (pss_cons (ps_par (i := 2) (j := 3) (by rfl) sc_objects_of.nd rfl rfl (by decide) rfl rfl (pa_cons (pe_lst pa_nil) (pa_cons pe_int pa_nil)) (by rfl))
      (pss_cons (ps_for (passes_of rfl) rfl (pi_listK (K := K) (pv 0)) (pg_name (i := 4) sc_objects_of.nd rfl (Or.inl rfl)) (pss_cons (ps_expr (pe_bmK (K := K) PySem.F.plainAttrs_list PySem.F.slot_list_append PySem.F.type_list_append mt_append (pv 2) (pa_cons (pe_mak (ok_Told_init T) (hr.mono (by decide)) (passes_call (takes_of rfl rfl rfl rfl) (fun _ _ _ _ h => h)) (pa_cons (pe_slice (sl_listK (K := K)) (pv 1) (po_some (pv 3)) (po_some (pe_op op_add (pv 3) (pv 4)))) pa_nil)) pa_nil)))
      (pss_one (ps_aug (i := 3) sc_objects_of.nd rfl (Or.inl rfl) (pv 4) ip_add))))
      (pss_one (ps_ret (pv 2))))), ?_⟩)
  · obtain ⟨a, l, sizes, b, rfl, _⟩ := h
    rfl
  · obtain ⟨a, l, sizes, b, rfl, hA, hsl, hR, q1, q2⟩ := h
    refine ⟨by decide, fun fp hfp => ⟨_, _, rfl, ?_⟩⟩
    have e1 : Ex H (upd H fp (.lst [])) := Ex.new hfp
    have h1 : (upd H fp (.lst [])) fp = some (.lst []) := upd_same
    refine q_forM (L := sizes) (f := fun (n : Nat) => V.int (n : Int)) (ev_var rfl) (ex_l e1 hA) (fun pre σ' H' => ∃ (v : Option V) (ds : List OD), σ' = [some (.ref a), some (.ref l), some (.ref fp), some (nv pre.sum), v] ∧ Ex H H' ∧ H' fp = some (.lst (dsL ds)) ∧
      (Sn17.cut pre b).mapM Sn17.object = .ok (ds.map OD.obj) ∧ (∀ d ∈ ds, ObjAt K H' d pl0 ∧ Apart fp d) ∧ ((allZs ds).map (·.1)).Nodup ∧ ds.length = pre.length)
      (fun H2 e2 => ⟨none, [], rfl, e1.trans e2, e2 _ _ h1, rfl, (fun d hd => nomatch hd), List.nodup_nil, rfl⟩) (fun pre σ' H' p => by
        obtain ⟨_, _, _, e, _⟩ := p
        exact ex_l e hA) ?_ ?_
    rotate_left
    · rintro σ' H' ⟨v, ds, rfl, e, hf, hm, hd, hnd, _⟩
      exact s_ret (ev_var rfl) fun H2 e2 => q1 _ hm fp ds H2 hfp (e.trans e2) (e2 _ _ hf) rfl ⟨fun d m => ((hd d m).1).mono e2, hnd⟩
    rintro pre n post σ' H' hsp ⟨v, ds, rfl, e, hf, hm, hd, hnd, hdl⟩
    have hpl : pre.length < 64 := by
      have z := congrArg List.length hsp
      rw [List.length_append, List.length_cons] at z
      omega
    refine ⟨_, rfl, Or.inl ⟨rfl, _, SqL.of hf⟩, ?_⟩
    refine (el_sl (a := l) (lo := some ((pre.sum : Nat) : Int)) (hi := some ((pre.sum + n : Nat) : Int)) (ev_var rfl) (eo_some (ev_var rfl)) (eo_some (ev_addN (ev_var rfl) (ev_var rfl))) ((hR.mono e).sq)) H' (Ex.refl H') _ fun r H2 hr e2 h2 => ?_
    rw [iv_slice, show pre.sum + n - pre.sum = n by omega] at h2
    have Rr : Rw K H2 r ((b.drop pre.sum).take n) := ⟨SqL.of h2, by have := hR.len; rw [List.length_take, List.length_drop]; omega, fun x hx => hR.by_ x (List.mem_of_mem_drop (List.mem_of_mem_take hx))⟩
    intro x dx nx nd ne
    have exm : Ex H2 (upd (upd H2 dx (.own x)) x (.ins (C_Told K) dx [])) := fun c u hc => by rw [upd_ne (ne_of_none hc nx), upd_ne (ne_of_none hc nd)]; exact hc
    refine ⟨x, dx, r, _, rfl, upd_same, Rr.mono exm, fun o ho d H3 d1 d2 d3 N u => ⟨rfl, ?_⟩, fun er he => q2 er ?_⟩
    rotate_left
    · obtain ⟨more, hc⟩ := Mx.cut_mid pre n post b
      rw [hsp, hc]
      exact Mx.mapM_err hm he
    have e23 : Ex H2 H3 := Up.made nx nd u
    have e13 := e2.trans e23
    have hf3 := e13 _ _ hf
    have hf2 := e2 _ _ hf
    refine ⟨fp, _, .ref x, rfl, rfl, hf3, by unfold dsL; rw [List.length_map, sizeLine_eq]; omega, ?_⟩
    have uu : Up fp H3 (upd H3 fp (.lst (dsL ds ++ [.ref x]))) := (Up.refl fp H3).upd
    have nf : ∀ {c : Addr}, H2 c = none → c ≠ fp := fun hc z => by rw [z, hf2] at hc; cases hc
    have nrow : d.row ≠ fp := by
      rw [d2]
      intro z
      rw [z, hf] at hr
      cases hr
    have Ad : Apart fp d := ⟨nrow, nf (none_made N.fs), nf (none_made N.fy), nf (none_made N.fr)⟩
    refine s_aug rfl (ev_var (v := nv n) rfl) fun H4 e4 => ?_
    refine ⟨some (nv n), ds ++ [d], ?_, (Up.exF hfp (e.trans e13) uu).trans e4, ?_, ?_, ?_, ?_, ?_⟩
    · rw [List.sum_append, List.sum_cons, List.sum_nil, Nat.add_zero]
      rfl
    · refine e4 _ _ ?_
      unfold dsL
      rw [upd_same, List.map_append, ← d1]
      rfl
    · rw [Mx.cut_snoc, List.map_append]
      refine Mx.mapM_snoc hm ?_
      rw [ho, ← d3]
    · intro y hy
      rcases List.mem_append.mp hy with m | m
      · exact ⟨((((hd y m).1.mono e13)).up (hd y m).2 hf3 uu).mono e4, (hd y m).2⟩
      · have ey : y = d := by simpa using m
        subst ey
        exact ⟨(N.at_.up Ad hf3 uu).mono e4, Ad⟩
    · have hz : allZs (ds ++ [d]) = allZs ds ++ d.zs := by
        unfold allZs
        rw [List.flatMap_append]
        simp
      rw [hz, List.map_append, List.nodup_append]
      refine ⟨hnd, N.nd, fun c hc c2 hc2 z => ?_⟩
      subst z
      obtain ⟨z2, m2, e2'⟩ := List.mem_map.mp hc2
      have n2 := none_made (N.fz z2 m2)
      rw [e2'] at n2
      obtain ⟨z1, m1, e1'⟩ := List.mem_map.mp hc
      obtain ⟨dd, md, mz⟩ := List.mem_flatMap.mp m1
      obtain ⟨dc, hc1⟩ := (hd dd md).1.sec z1 mz
      rw [e1'] at hc1
      rw [e2 _ _ hc1] at n2
      cases n2
    · rw [List.length_append, List.length_append, hdl]
      rfl
/-! ### the memory -/
def secMem (d : OD) : Nat := ((d.zs.filter fun z => z.2.loads).map fun z => z.2.size + z.2.align).sum
def comMem (d : OD) : Nat := ((d.zy.filter fun z => (z.2.bind != 0) && (z.2.sec == 65522)).map fun z => z.2.size + z.2.value).sum
def memOf (ds : List OD) : Nat := (ds.map fun d => secMem d + comMem d).sum
def spMem (K : PySem.W.Frag) : Sp := fun vs H Q _ => ∃ (p : Addr) (ds : List OD) (pl : Addr → Nat × Nat), vs = [.ref p] ∧ SqL K H p (dsL ds) ∧ Wd K H ds pl ∧ (∀ d ∈ ds, d.zs.length ≤ 65536 ∧ d.zy.length ≤ 65536) ∧ RetV (nv (memOf ds)) H Q
theorem ints_nv {α : Type} (f : α → Nat) (l : List α) : (l.map fun z => V.int ((f z : Nat) : Int)) = (l.map fun z => ((f z : Nat) : Int)).map V.int := by
  rw [List.map_map]
  rfl
theorem sum_nat {α : Type} (f : α → Nat) : ∀ l : List α, (l.map fun z => ((f z : Nat) : Int)).sum = (((l.map f).sum : Nat) : Int)
  | [] => rfl
  | x :: r => by
    rw [List.map_cons, List.map_cons, List.sum_cons, List.sum_cons, sum_nat f r]
    omega
/-- sum of a new list -/
theorem ev_sumN {α : Type} {σ : L2.St} {H : Hp} {te : TE} (f : α → Nat) (l : List α) (h : EvL te σ H (l.map fun z => V.int ((f z : Nat) : Int))) : Ev (tCB (rSum K) (tCons te tNil)) σ H (nv (l.map f).sum) := fun H1 e Q q =>
  h H1 e _ fun p H2 _ e2 h2 => ⟨p, _, rfl, by rw [← ints_nv]; exact SqL.of h2, by
    rw [sum_nat]
    exact q H2 e2⟩
/-- a comprehension without a test -/
theorem ev_lcAll {α : Type} {L : List α} {f g : α → V} {σ : L2.St} {H : Hp} {te tl : TE} {a : Addr} {j : Nat} {vs : List Nat} (h : Ev tl σ H (.ref a)) (hx : SqL K H a (L.map f)) (hz : L.length ≤ 16000000) (hw : ∀ x, wipe ((wipe σ vs).set j (some x)) vs = wipe σ vs)
    (he : ∀ x ∈ L, ∀ H1, Ex H H1 → Ev te ((wipe σ vs).set j (some (f x))) H1 (g x)) : EvL (tLc (iList K tl) (gName j) tYes te vs) σ H (L.map g) := by
  have z := el_lcM (K := K) (L := L) (f := f) (g := g) (p := fun _ => true) (te := te) (t := tYes) (j := j) (vs := vs) h hx hz hw (fun _ _ _ _ => et_yes) (fun x m H1 e _ => he x m H1 e)
  rw [List.filter_eq_self.mpr (fun _ _ => rfl)] at z
  exact z
theorem ok_memory_of (T : Tx K mg) : Cal P w K mg base 3 "memory_of" (spMem K) := by
  obtain ⟨fd, F⟩ := T.d_memory_of
  refine cal_of F T.g_memory_of sc_memory_of (fun vs H Q E h => ?_) (fun _ _ _ _ _ _ us hl => match us, hl with | [_], _ => rfl) (fun cdv A outer s H vs Q E hr h => ⟨_, (pss_cons (ps_set (i := 1) sc_memory_of.nd rfl (Or.inl rfl) pe_int)
      (pss_cons (ps_for (passes_of rfl) rfl (pi_listK (K := K) (pv 0)) (pg_name (i := 2) sc_memory_of.nd rfl (Or.inl rfl)) (pss_cons (ps_aug (i := 1) sc_memory_of.nd rfl (Or.inl rfl) (pe_callB (cr_sumK (K := K) rfl) (by rfl) T.b_sum (by decide +kernel) (pa_cons (pe_lc (own := [("section", 5)]) (g := gName 5) rfl sc_memory_of.nd (pi_listK (K := K) (pe_fldK (K := K) (pv 2))) (blkOk_by (own := [("section", 5)]) (N := ["objects", "found", "one", "commons", "symbol", "section"]) (sc := defScope s_memory_of) (by decide +kernel)) (fun _ _ _ _ _ => pg_name (i := 5) sc_memory_of.nd rfl (Or.inl rfl)) (fun _ _ _ _ _ => (pts_one (pt_val (pe_met0 (ok_Section_is_loaded T) (hr.mono (by decide)) passL (pv 5))))) (fun _ _ _ _ _ => (pe_op op_add (pe_fldK (K := K) (pv 5)) (pe_fldK (K := K) (pv 5))))) pa_nil)) ip_add)
      (pss_cons (ps_setLc (i := 3) (own := [("symbol", 4)]) (g := gName 4) rfl sc_memory_of.nd rfl rfl (sw_true rfl rfl rfl (by decide +kernel)) (pi_listK (K := K) (pe_fldK (K := K) (pv 2))) (blkOk_by (own := [("symbol", 4)]) (N := ["objects", "found", "one", "commons", "symbol", "section"]) (sc := defScope s_memory_of) (by decide +kernel)) (fun _ _ _ _ _ => pg_name (i := 4) sc_memory_of.nd rfl (Or.inl rfl)) (fun _ _ _ _ _ => (pts_one (PW.pt (pw_and (pt_cmpR op_ne (pe_fldK (K := K) (pv 4)) (pe_gi T.v_LOCAL) (nomark _)) (pw_and1 (pt_cmpR op_eq (pe_fldK (K := K) (pv 4)) (pe_gi T.v_COMMON) (nomark _))))))) (fun _ _ _ _ _ => (pv 4)))
      (pss_one (ps_aug (i := 1) sc_memory_of.nd rfl (Or.inl rfl) (pe_callB (cr_sumK (K := K) rfl) (by rfl) T.b_sum (by decide +kernel) (pa_cons (pe_lc (own := [("symbol", 4)]) (g := gName 4) rfl sc_memory_of.nd (pi_listK (K := K) (pv 3)) (blkOk_by (own := [("symbol", 4)]) (N := ["objects", "found", "one", "commons", "symbol", "section"]) (sc := defScope s_memory_of) (by decide +kernel)) (fun _ _ _ _ _ => pg_name (i := 4) sc_memory_of.nd rfl (Or.inl rfl)) (fun _ _ _ _ _ => pts_nil) (fun _ _ _ _ _ => (pe_op op_add (pe_fldK (K := K) (pv 4)) (pe_fldK (K := K) (pv 4))))) pa_nil)) ip_add)))))
      (pss_one (ps_ret (pv 1))))), ?_⟩)
  · obtain ⟨p, ds, pl, rfl, _⟩ := h
    rfl
  · obtain ⟨p, ds, pl, rfl, hL, W, hz, q⟩ := h
    refine q_asg (ev_kN 0) fun H1 e1 => ?_
    refine q_forM (L := ds) (f := fun d => V.ref d.told) (ev_var rfl) (ex_l e1 hL) (fun pre σ' H' => ∃ v2 v3 : Option V, σ' = [some (.ref p), some (nv (memOf pre)), v2, v3, none, none] ∧ Ex H H') (fun H2 e2 => ⟨none, none, rfl, e1.trans e2⟩) (fun pre σ' H' pp => by
      obtain ⟨_, _, _, e⟩ := pp
      exact ex_l e hL) ?_ ?_
    · rintro pre d post σ' H' hsp ⟨v2, v3, rfl, e⟩
      have hm : d ∈ ds := by rw [hsp]; simp
      have O := (W.obj d hm).mono e
      obtain ⟨dx, hd⟩ := O.told
      refine ⟨_, rfl, ?_⟩
      refine (ev_sumN (fun z : Addr × Sn17.Sec => z.2.size + z.2.align) (d.zs.filter fun z => z.2.loads) (el_lcM (L := d.zs) (f := fun z => V.ref z.1) (g := fun z => V.int ((z.2.size + z.2.align : Nat) : Int)) (p := fun z => z.2.loads) (a := d.secs) (ev_fl (ev_var rfl) (fl_Told_sections T hd)) (SqL.of O.secs) (by have := (hz d hm).1; omega) (fun _ => rfl) (fun z m H2 e2 => et_B (ev_loaded ((O.sec z m).mono e2) (ev_var rfl))) (fun z m H2 e2 _ => ev_addN (ev_fl (ev_var rfl) (fl_Section_size T ((O.sec z m).mono e2))) (ev_fl (ev_var rfl) (fl_Section_alignment T ((O.sec z m).mono e2)))))) H' (Ex.refl H') _ fun H2 e2 => ?_
      refine ⟨_, _, rfl, rfl, ?_⟩
      have O2 := O.mono e2
      have hd2 := e2 _ _ hd
      refine q_asgL (el_lcM (L := d.zy) (f := fun z => V.ref z.1) (g := fun z => V.ref z.1) (p := fun z => (z.2.bind != 0) && (z.2.sec == 65522)) (ev_fl (ev_var rfl) (fl_Told_symbols T hd2)) (SqL.of O2.syms) (by have := (hz d hm).2; omega) (fun _ => rfl) (fun z m H3 e3 => et_and (et_neN (ev_fl (ev_var rfl) (fl_Symbol_binding T ((O2.sym z m).mono e3))) (ev_kN 0)) fun _ => et_eqN (ev_fl (ev_var rfl) (fl_Symbol_section T ((O2.sym z m).mono e3))) (ev_kN 65522)) (fun z m H3 e3 _ => ev_var rfl)) fun cp H3 _ e3 h3 => ?_
      have O3 := O2.mono e3
      refine ⟨_, rfl, ?_⟩
      have hfm : ∀ z ∈ d.zy.filter (fun z => (z.2.bind != 0) && (z.2.sec == 65522)), z ∈ d.zy := fun z m => (List.mem_filter.mp m).1
      have hfl : (d.zy.filter (fun z => (z.2.bind != 0) && (z.2.sec == 65522))).length ≤ 65536 := Nat.le_trans (List.length_filter_le ..) (hz d hm).2
      refine (ev_sumN (fun z : Addr × Sn17.Sym => z.2.size + z.2.value) (d.zy.filter fun z => (z.2.bind != 0) && (z.2.sec == 65522)) (ev_lcAll (a := cp) (L := d.zy.filter fun z => (z.2.bind != 0) && (z.2.sec == 65522)) (f := fun z => V.ref z.1) (ev_var rfl) (SqL.of h3) (by omega) (fun _ => rfl) (fun z m H4 e4 => ev_addN (ev_fl (ev_var rfl) (fl_Symbol_size T ((O3.sym z (hfm z m)).mono e4))) (ev_fl (ev_var rfl) (fl_Symbol_value T ((O3.sym z (hfm z m)).mono e4)))))) H3 (Ex.refl H3) _ fun H4 e4 => ?_
      refine ⟨_, _, rfl, rfl, some (.ref d.told), some (.ref cp), ?_, ((e.trans e2).trans e3).trans e4⟩
      have ez : memOf (pre ++ [d]) = memOf pre + secMem d + comMem d := by
        unfold memOf
        rw [List.map_append, List.sum_append]
        simp
        omega
      rw [ez]
      rfl
    · rintro σ' H' ⟨v2, v3, rfl, e⟩
      exact s_ret (ev_var rfl) fun H2 e2 => q H2 (e.trans e2)
end
end Lk

/-! # Plain law: what a name means -/
namespace Mx
open Sn17
inductive PM (α : Type) where
  | sym (x : α)
  | common (size align : Nat)
  | nothing
def PM.to {α : Type} (g : α → Nat × Sym) : PM α → Meant
  | .sym x => .sym (g x).1 (g x).2
  | .common a b => .common a b
  | .nothing => .nothing
section
variable {α : Type}
def pDefs (sy : α → Sym) (l : List α) : List α := l.filter fun x => (sy x).sec != 0 && (sy x).sec != 65522
def pStrong (sy : α → Sym) (l : List α) : List α := (pDefs sy l).filter fun x => decide ((sy x).bind = 1)
def pComs (sy : α → Sym) (l : List α) : List α := l.filter fun x => decide ((sy x).sec = 65522)
def pMax (f : α → Nat) (z : Nat) (l : List α) : Nat := (l.map f).foldl max z
def settleP (sy : α → Sym) (l : List α) : R (PM α) :=
  if 1 < (pStrong sy l).length then .error .twice else match pStrong sy l with
  | x :: _ => .ok (.sym x)
  | [] => match pComs sy l with
    | x :: r => .ok (.common (pMax (fun z => (sy z).size) 0 (x :: r)) (pMax (fun z => (sy z).value) 1 (x :: r)))
    | [] => match pDefs sy l with
      | x :: _ => .ok (.sym x)
      | [] => if (l.any fun x => decide ((sy x).bind = 1)) = true then .error .missing else .ok .nothing
theorem filt_map {β : Type} (g : α → β) (p : β → Bool) (q : α → Bool) (h : ∀ x, p (g x) = q x) : ∀ l : List α, (l.map g).filter p = (l.filter q).map g
  | [] => rfl
  | x :: r => by
    rw [List.map_cons, List.filter_cons, List.filter_cons, h, filt_map g p q h r]
    cases q x <;> rfl
theorem foldl_g {β : Type} (g : α → β) (f : β → Nat) : ∀ (l : List α) (z : Nat), (l.map g).foldl (fun n x => max n (f x)) z = (l.map fun x => f (g x)).foldl max z
  | [], _ => rfl
  | x :: r, z => by
    rw [List.map_cons, List.map_cons, List.foldl_cons, List.foldl_cons, foldl_g g f r]
theorem settle_eq (g : α → Nat × Sym) (l : List α) (hb : ∀ x ∈ l, (g x).2.bind = 1 ∨ (g x).2.bind = 2) : settle (l.map g) = (settleP (fun x => (g x).2) l).map (PM.to g) := by
  have e1 : (l.map g).filter (fun x => x.2.sec != 0 && x.2.sec != COMMON) = (pDefs (fun x => (g x).2) l).map g := filt_map g _ _ (fun _ => rfl) l
  have e2 : ((pDefs (fun x => (g x).2) l).map g).filter (fun x => x.2.bind == 1) = (pStrong (fun x => (g x).2) l).map g := filt_map g _ _ (fun _ => rfl) _
  have e3 : (l.map g).filter (fun x => x.2.sec == COMMON) = (pComs (fun x => (g x).2) l).map g := filt_map g _ _ (fun _ => rfl) l
  unfold settle settleP
  dsimp only
  rw [e1, e2, e3]
  cases h1 : pStrong (fun x => (g x).2) l with
  | cons x r =>
    rw [List.map_cons]
    cases r with
    | nil => rfl
    | cons y r =>
      rw [if_pos (show 1 < (x :: y :: r).length by rw [List.length_cons, List.length_cons]; omega)]
      rfl
  | nil =>
    rw [if_neg (show ¬ 1 < ([] : List α).length by simp)]
    cases h2 : pComs (fun x => (g x).2) l with
    | cons x r =>
      rw [List.map_cons]
      show Except.ok (Meant.common _ _) = Except.ok (Meant.common _ _)
      rw [← List.map_cons, foldl_g g (fun z => z.2.size), foldl_g g (fun z => z.2.value)]
      rfl
    | nil =>
      cases h3 : pDefs (fun x => (g x).2) l with
      | cons x r => rfl
      | nil =>
        have e4 : ((l.map g).all fun x => x.2.bind == 2) = !(l.any fun x => decide ((g x).2.bind = 1)) := by
          rw [List.all_map, List.not_any_eq_all_not]
          clear e1 e2 e3 h1 h2 h3
          induction l with
          | nil => rfl
          | cons x r ih =>
            rw [List.all_cons, List.all_cons, ih (fun y m => hb y (List.mem_cons_of_mem _ m))]
            congr 1
            show ((g x).2.bind == 2) = !decide ((g x).2.bind = 1)
            rcases hb x (List.mem_cons_self ..) with e | e <;> rw [e] <;> rfl
        show (if ((l.map g).all fun x => x.2.bind == 2) = true then Except.ok Meant.nothing else Except.error Bad.missing) = _
        rw [e4]
        cases (l.any fun x => decide ((g x).2.bind = 1)) <;> rfl
theorem max_le {m : Nat} : ∀ {l : List Nat} {z : Nat}, z ≤ m → (∀ y ∈ l, y ≤ m) → l.foldl max z ≤ m
  | [], _, h, _ => h
  | x :: r, z, h, h2 => by
    rw [List.foldl_cons]
    exact max_le (Nat.max_le.mpr ⟨h, h2 x (List.mem_cons_self ..)⟩) fun y hy => h2 y (List.mem_cons_of_mem _ hy)
theorem le_max : ∀ {l : List Nat} {z m : Nat}, m ∈ l ∨ m ≤ z → m ≤ l.foldl max z
  | [], z, m, h => by
    rcases h with h | h
    · cases h
    · exact h
  | x :: r, z, m, h => by
    rw [List.foldl_cons]
    refine le_max ?_
    rcases h with h | h
    · rcases List.mem_cons.mp h with e | e
      · exact .inr (by rw [e]; exact Nat.le_max_right ..)
      · exact .inl e
    · exact .inr (Nat.le_trans h (Nat.le_max_left ..))
theorem max_is {l : List Nat} {z m : Nat} (h : m ∈ l) (h2 : ∀ y ∈ l, y ≤ m) (h3 : z ≤ m) : l.foldl max z = m := Nat.le_antisymm (max_le h3 h2) (le_max (.inl h))
theorem settleP_in {sy : α → Sym} {l : List α} {x : α} (h : settleP sy l = .ok (.sym x)) : x ∈ l ∧ (sy x).sec ≠ 0 ∧ (sy x).sec ≠ 65522 := by
  have q : ∀ y, y ∈ pDefs sy l → y ∈ l ∧ (sy y).sec ≠ 0 ∧ (sy y).sec ≠ 65522 := fun y hy => by
    obtain ⟨h1, h2⟩ := List.mem_filter.mp hy
    simp at h2
    exact ⟨h1, h2.1, h2.2⟩
  unfold settleP at h
  split at h
  · cases h
  · split at h
    · rename_i y r e
      cases h
      have m : x ∈ pStrong sy l := by rw [e]; exact List.mem_cons_self ..
      exact q x (List.mem_filter.mp m).1
    · split at h
      · cases h
      · split at h
        · rename_i y r e
          cases h
          exact q x (by rw [e]; exact List.mem_cons_self ..)
        · split at h <;> cases h
end
end Mx

set_option Elab.async false
set_option linter.all false
set_option maxRecDepth 100000
set_option maxHeartbeats 4000000
/-! # Names: what a name means, its address -/
namespace Lk
open PySem PySem.Spec PyProof.Rows L2 Evl He
/-- a pair (symbol, sections): its tuple, its parts, the object's number -/
structure PR where
  t : Addr
  y : Addr
  c : Addr
  o : Nat
  s : Sn17.Sym
abbrev PM := Mx.PM PR
def PR.g (p : PR) : Nat × Sn17.Sym := (p.o, p.s)
def dfV : PM → V
  | .sym x => .ref x.t
  | _ => .non
def comB : PM → Bool
  | .common _ _ => true
  | _ => false
def szN : PM → Nat
  | .common n _ => n
  | _ => 0
def alN : PM → Nat
  | .common _ n => n
  | _ => 1
def nmF (lp : Addr) (m : PM) (ad : Nat) : List (Str × V) := [("symbols", .ref lp), ("definition", dfV m), ("is_common", .bl (comB m)), ("size", nv (szN m)), ("alignment", nv (alN m)), ("address", nv ad)]
def NmAt (K : PySem.W.Frag) (H : Hp) (a lp : Addr) (m : PM) (ad : Nat) : Prop := ∃ dx, H a = some (.ins (C_Name K) dx (nmF lp m ad))
def PrAt (K : PySem.W.Frag) (H : Hp) (p : PR) : Prop := H p.t = some (.tup [.ref p.y, .ref p.c]) ∧ SymAt K H p.y p.s
section
variable {P : Program} {w : World} {K : PySem.W.Frag} {mg : Str → Option Value} {base : Heap}
theorem NmAt.mono {H H' : Hp} {a lp : Addr} {m : PM} {ad : Nat} (h : NmAt K H a lp m ad) (e : Ex H H') : NmAt K H' a lp m ad := by
  obtain ⟨dx, h⟩ := h
  exact ⟨dx, e _ _ h⟩
theorem PrAt.mono {H H' : Hp} {p : PR} (h : PrAt K H p) (e : Ex H H') : PrAt K H' p := ⟨e _ _ h.1, h.2.mono e⟩
theorem fl_Name_symbols (T : Tx K mg) {H : Hp} {a : Addr} {lp : Addr} {m : PM} {ad : Nat} (h : NmAt K H a lp m ad) : Fl K H a "symbols" (.ref lp) := by
  obtain ⟨dx, h⟩ := h
  exact ⟨_, dx, _, h, T.c_Name, T.n_Name_symbols, lk_at (ks := ["symbols", "definition", "is_common", "size", "alignment", "address"]) (i := 0) rfl (by decide +kernel) rfl⟩
theorem fl_Name_definition (T : Tx K mg) {H : Hp} {a : Addr} {lp : Addr} {m : PM} {ad : Nat} (h : NmAt K H a lp m ad) : Fl K H a "definition" (dfV m) := by
  obtain ⟨dx, h⟩ := h
  exact ⟨_, dx, _, h, T.c_Name, T.n_Name_definition, lk_at (ks := ["symbols", "definition", "is_common", "size", "alignment", "address"]) (i := 1) rfl (by decide +kernel) rfl⟩
theorem fl_Name_is_common (T : Tx K mg) {H : Hp} {a : Addr} {lp : Addr} {m : PM} {ad : Nat} (h : NmAt K H a lp m ad) : Fl K H a "is_common" (.bl (comB m)) := by
  obtain ⟨dx, h⟩ := h
  exact ⟨_, dx, _, h, T.c_Name, T.n_Name_is_common, lk_at (ks := ["symbols", "definition", "is_common", "size", "alignment", "address"]) (i := 2) rfl (by decide +kernel) rfl⟩
theorem fl_Name_size (T : Tx K mg) {H : Hp} {a : Addr} {lp : Addr} {m : PM} {ad : Nat} (h : NmAt K H a lp m ad) : Fl K H a "size" (nv (szN m)) := by
  obtain ⟨dx, h⟩ := h
  exact ⟨_, dx, _, h, T.c_Name, T.n_Name_size, lk_at (ks := ["symbols", "definition", "is_common", "size", "alignment", "address"]) (i := 3) rfl (by decide +kernel) rfl⟩
theorem fl_Name_alignment (T : Tx K mg) {H : Hp} {a : Addr} {lp : Addr} {m : PM} {ad : Nat} (h : NmAt K H a lp m ad) : Fl K H a "alignment" (nv (alN m)) := by
  obtain ⟨dx, h⟩ := h
  exact ⟨_, dx, _, h, T.c_Name, T.n_Name_alignment, lk_at (ks := ["symbols", "definition", "is_common", "size", "alignment", "address"]) (i := 4) rfl (by decide +kernel) rfl⟩
theorem fl_Name_address (T : Tx K mg) {H : Hp} {a : Addr} {lp : Addr} {m : PM} {ad : Nat} (h : NmAt K H a lp m ad) : Fl K H a "address" (nv ad) := by
  obtain ⟨dx, h⟩ := h
  exact ⟨_, dx, _, h, T.c_Name, T.n_Name_address, lk_at (ks := ["symbols", "definition", "is_common", "size", "alignment", "address"]) (i := 5) rfl (by decide +kernel) rfl⟩
theorem hm_Name_settle {H : Hp} {a : Addr} {lp : Addr} {m : PM} {ad : Nat} (h : NmAt K H a lp m ad) : HasM H a (C_Name K) "settle" := by
  obtain ⟨dx, h⟩ := h
  exact ⟨dx, _, h, lk_no (ks := ["symbols", "definition", "is_common", "size", "alignment", "address"]) rfl (by decide +kernel)⟩
theorem hm_Name_is_nothing {H : Hp} {a : Addr} {lp : Addr} {m : PM} {ad : Nat} (h : NmAt K H a lp m ad) : HasM H a (C_Name K) "is_nothing" := by
  obtain ⟨dx, h⟩ := h
  exact ⟨dx, _, h, lk_no (ks := ["symbols", "definition", "is_common", "size", "alignment", "address"]) rfl (by decide +kernel)⟩
theorem hm_Name_whereabouts {H : Hp} {a : Addr} {lp : Addr} {m : PM} {ad : Nat} (h : NmAt K H a lp m ad) : HasM H a (C_Name K) "whereabouts" := by
  obtain ⟨dx, h⟩ := h
  exact ⟨dx, _, h, lk_no (ks := ["symbols", "definition", "is_common", "size", "alignment", "address"]) rfl (by decide +kernel)⟩
theorem no_df (m : PM) : decide (dfV m = .non) = match m with | .sym _ => false | _ => true := by
  cases m with
  | sym x => exact decide_eq_false (fun z => nomatch z)
  | common _ _ => exact decide_eq_true rfl
  | nothing => exact decide_eq_true rfl
/-! ### the address of a symbol -/
def adr (zs : List (Addr × Sn17.Sec)) (pl : Addr → Nat × Nat) (s : Sn17.Sym) : Option Nat := if s.sec = 0 then some 0 else if s.sec = 65521 then some s.value else match zs[s.sec]? with
  | some z => if z.2.loads = true then some (((pl z.1).2 + s.value) % 2 ^ 64) else none
  | none => none
def ov : Option Nat → V
  | some n => nv n
  | none => .non
def spAdr (K : PySem.W.Frag) : Sp := fun vs H Q _ => ∃ (y c : Addr) (s : Sn17.Sym) (zs : List (Addr × Sn17.Sec)) (pl : Addr → Nat × Nat), vs = [.ref y, .ref c] ∧ SymAt K H y s ∧ SqL K H c (zsL zs) ∧ (∀ z ∈ zs, SecAt K H z.1 z.2 (pl z.1).1 (pl z.1).2) ∧
  (s.sec = 0 ∨ s.sec = 65521 ∨ s.sec < zs.length) ∧ RetV (ov (adr zs pl s)) H Q
theorem ok_address_of (T : Tx K mg) : Cal P w K mg base 3 "address_of" (spAdr K) := by
  obtain ⟨fd, F⟩ := T.d_address_of
  refine cal_of F T.g_address_of sc_address_of (fun vs H Q E h => ?_) (fun _ _ _ _ _ _ us hl => match us, hl with | [_, _], _ => rfl) (fun cdv A outer s H vs Q E hr h => ⟨_, (pss_cons (ps_if (pt_cmpR op_eq (pe_fldK (K := K) (pv 0)) pe_int (nomark _)) (pss_one (ps_ret pe_int)) pss_nil)
      (pss_cons (ps_if (pt_cmpR op_eq (pe_fldK (K := K) (pv 0)) (pe_gi T.v_ABSOLUTE) (nomark _)) (pss_one (ps_ret (pe_fldK (K := K) (pv 0)))) pss_nil)
      (pss_cons (ps_set (i := 2) sc_address_of.nd rfl (Or.inl rfl) (pe_ix (ix_listK (K := K)) (pv 1) (pe_fldK (K := K) (pv 0)) (fun _ _ => rfl)))
      (pss_one (ps_ret (pe_ifExp (pt_val (pe_met0 (ok_Section_is_loaded T) (hr.mono (by decide)) passL (pv 2))) (pe_op op_mod (pe_op op_add (pe_fldK (K := K) (pv 2)) (pe_fldK (K := K) (pv 0))) (pe_gi T.v_CUT)) pe_non)))))), ?_⟩)
  · obtain ⟨y, c, s, zs, pl, rfl, _⟩ := h
    rfl
  · obtain ⟨y, c, s, zs, pl, rfl, hY, hL, hS, hr2, q⟩ := h
    refine q_when (et_eqN (ev_fl (ev_var rfl) (fl_Symbol_section T hY)) (ev_kN 0)) (fun c1 H1 e1 => ?_) (fun c1 H1 e1 => ?_)
    · refine s_ret (ev_kN 0) fun H2 e2 => ?_
      have z := q H2 (e1.trans e2)
      have d1 : s.sec = 0 := of_decide_eq_true c1
      unfold adr at z
      rw [if_pos d1] at z
      exact z
    have d1 : ¬ s.sec = 0 := of_decide_eq_false c1
    have hY1 := hY.mono e1
    refine q_when (et_eqN (ev_fl (ev_var rfl) (fl_Symbol_section T hY1)) (ev_kN 65521)) (fun c2 H2 e2 => ?_) (fun c2 H2 e2 => ?_)
    · refine s_ret (ev_fl (ev_var rfl) (fl_Symbol_value T (hY1.mono e2))) fun H3 e3 => ?_
      have z := q H3 ((e1.trans e2).trans e3)
      have d2 : s.sec = 65521 := of_decide_eq_true c2
      unfold adr at z
      rw [if_neg d1, if_pos d2] at z
      exact z
    have d2 : ¬ s.sec = 65521 := of_decide_eq_false c2
    have hY2 := hY1.mono e2
    have e12 := e1.trans e2
    have hlt : s.sec < zs.length := by
      rcases hr2 with h | h | h
      · exact absurd h d1
      · exact absurd h d2
      · exact h
    obtain ⟨⟨za, zz⟩, hz⟩ : ∃ z, zs[s.sec]? = some z := ⟨_, List.getElem?_eq_getElem hlt⟩
    have hix : (zsL zs)[s.sec]? = some (.ref za) := by
      unfold zsL
      rw [List.getElem?_map, hz]
      rfl
    have Sz := (hS _ (List.mem_of_getElem? hz)).mono e12
    refine q_asg (ev_ixL (ev_var rfl) (ex_l e12 hL) (ev_fl (ev_var rfl) (fl_Symbol_section T hY2)) hix) fun H3 e3 => ?_
    have S3 := Sz.mono e3
    have hY3 := hY2.mono e3
    refine s_ret (ev_ifs (et_B (ev_loaded S3 (ev_var rfl))) (fun _ => ev_modN (ev_addN (ev_fl (ev_var rfl) (fl_Section_address T S3)) (ev_fl (ev_var rfl) (fl_Symbol_value T hY3))) (ev_kN 18446744073709551616) (by decide)) (fun _ => ev_c)) fun H4 e4 => ?_
    have z := q H4 ((e12.trans e3).trans e4)
    unfold adr at z
    rw [if_neg d1, if_neg d2, hz] at z
    by_cases hb : zz.loads = true
    · rw [if_pos hb]
      simp only [if_pos hb] at z
      exact z
    · rw [if_neg hb]
      simp only [if_neg hb] at z
      exact z
/-! ### a name -/
def spNmInit (K : PySem.W.Frag) : Sp := fun vs H Q _ => ∃ (p dx : Addr), vs = [.ref p] ∧ H p = some (.ins (C_Name K) dx []) ∧ ∀ (lp : Addr) (H' : Hp), H lp = none → H' p = some (.ins (C_Name K) dx (nmF lp .nothing 0)) → H' lp = some (.lst []) → Up p H H' → Q .non H'
theorem nm_put (v1 v2 v3 v4 v5 v6 : V) : putF "address" v6 (putF "alignment" v5 (putF "size" v4 (putF "is_common" v3 (putF "definition" v2 (putF "symbols" v1 []))))) = ([("symbols", v1), ("definition", v2), ("is_common", v3), ("size", v4), ("alignment", v5), ("address", v6)] : List (Str × V)) := by rfl
theorem ok_Name_init (T : Tx K mg) : Mak P w K mg base 1 "Name" (C_Name K) (spNmInit K) := by
  obtain ⟨fd, F⟩ := T.d_Name_init
  refine mak_of F T.k_Name T.g_Name sc_Name_init (fun vs H Q E h => ?_) (fun _ _ _ _ _ _ us hl => match us, hl with | [_], _ => rfl) (fun cdv A outer s H vs Q E hr h => ⟨_, (pss_cons (ps_fldK (K := K) (pv 0) (pe_lst pa_nil))
      (pss_cons (ps_fldK (K := K) (pv 0) pe_non)
      (pss_cons (ps_fldK (K := K) (pv 0) pe_bl)
      (pss_cons (ps_fldK (K := K) (pv 0) pe_int)
      (pss_cons (ps_fldK (K := K) (pv 0) pe_int)
      (pss_one (ps_fldK (K := K) (pv 0) pe_int))))))), ?_⟩)
  · obtain ⟨p, dx, rfl, _⟩ := h
    rfl
  · obtain ⟨p, dx, rfl, hp, q⟩ := h
    refine ⟨by decide, fun lp hlp => ?_⟩
    have e1 : Ex H (upd H lp (.lst [])) := Ex.new hlp
    have hl1 : (upd H lp (.lst [])) lp = some (.lst []) := upd_same
    have hne : lp ≠ p := fun z => by rw [z, hp] at hlp; cases hlp
    refine ⟨_, rfl, p, C_Name K, dx, [], rfl, e1 _ _ hp, T.c_Name, T.n_Name_symbols, by decide, ?_⟩
    generalize hH2 : upd (upd H lp (.lst [])) p (.ins (C_Name K) dx (putF "symbols" (.ref lp) [])) = H2
    have p2 : H2 p = some (.ins (C_Name K) dx (putF "symbols" (.ref lp) [])) := by rw [← hH2]; exact upd_same
    have u2 : Up p H H2 := by rw [← hH2]; exact (Up.ex e1).upd
    have l2 : H2 lp = some (.lst []) := by rw [← hH2, upd_ne hne]; exact hl1
    have go : ∀ {v : V} {te : TE} {D : Ends} {tz : TS} {f : Str} {H1 : Hp} {fs : List (Str × V)} (_ : ∀ {σ : L2.St} {H : Hp}, Ev te σ H v) (_ : NoAttr K (C_Name K) f) (_ : fs.length < 100) (_ : H1 p = some (.ins (C_Name K) dx fs)) (_ : Up p H H1) (_ : H1 lp = some (.lst []))
        (_ : ∀ H2, H2 p = some (.ins (C_Name K) dx (putF f v fs)) → Up p H H2 → H2 lp = some (.lst []) → tz D [some (.ref p)] H2), tSeq (sFld K (tVar 0) te f) tz D [some (.ref p)] H1 := by
      intro v te D tz f H1 fs hv hn hlt h1 u1 l1 kk
      exact q_fld hv (ev_var rfl) h1 T.c_Name hn (by omega) fun H2 e2 => kk _ upd_same ((u1.trans (Up.ex e2)).upd) (by rw [upd_ne hne]; exact e2 _ _ l1)
    refine go (v := .non) ev_c T.n_Name_definition (by show 1 < 100; decide) p2 u2 l2 fun H3 p3 u3 l3 => ?_
    refine go (v := .bl false) ev_c T.n_Name_is_common (by show 2 < 100; decide) p3 u3 l3 fun H4 p4 u4 l4 => ?_
    refine go (v := nv 0) ev_c T.n_Name_size (by show 3 < 100; decide) p4 u4 l4 fun H5 p5 u5 l5 => ?_
    refine go (v := nv 1) ev_c T.n_Name_alignment (by show 4 < 100; decide) p5 u5 l5 fun H6 p6 u6 l6 => ?_
    refine s_fld (v := nv 0) ev_c (ev_var rfl) p6 T.c_Name T.n_Name_address (by show 5 < 1000; decide) fun H7 e7 => ?_
    refine q lp _ hlp ?_ ?_ ((u6.trans (Up.ex e7)).upd)
    · rw [upd_same]
      rfl
    · rw [upd_ne hne]
      exact e7 _ _ l6
def isNo : PM → Bool
  | .nothing => true
  | _ => false
def spIsNo (K : PySem.W.Frag) : Sp := fun vs H Q _ => ∃ (a lp : Addr) (m : PM) (ad : Nat), vs = [.ref a] ∧ NmAt K H a lp m ad ∧ RetV (.bl (isNo m)) H Q
theorem ok_Name_is_nothing (T : Tx K mg) : Met P w K mg base 1 (C_Name K) "is_nothing" (spIsNo K) := by
  obtain ⟨fd, F⟩ := T.d_Name_is_nothing
  refine met_of F T.c_Name T.m_Name_is_nothing sc_Name_is_nothing (fun vs H Q E h => ?_) (fun _ _ _ _ _ _ us hl => match us, hl with | [_], _ => rfl) (fun cdv A outer s H vs Q E hr h => ⟨_, (pss_one (ps_ret (pe_and (pe_cmpR op_isN (pe_fldK (K := K) (pv 0)) pe_non (nomark _)) (pe_one (pe_not (pe_fldK (K := K) (pv 0))))))), ?_⟩)
  · obtain ⟨a, lp, m, ad, rfl, _⟩ := h
    rfl
  · obtain ⟨a, lp, m, ad, rfl, hN, q⟩ := h
    refine s_ret (ev_is (v := .bl (decide (dfV m = .non) && !comB m)) (ev_andV ?_ fun _ => ev_notV (ev_fl (ev_var rfl) (fl_Name_is_common T hN))) ?_) fun H1 e => q H1 e
    · refine ev_op (ev_fl (ev_var rfl) (fl_Name_definition T hN)) ev_c ?_
      intro H1 e1 Q1 q1
      exact ⟨rfl, q1 _ (Ex.refl _)⟩
    · rw [no_df]
      cases m <;> rfl
theorem ev_isno {E : XK} {a lp : Addr} {m : PM} {ad : Nat} {H : Hp} {σ : L2.St} {ta : TE} (hN : NmAt K H a lp m ad) (h1 : Ev ta σ H (.ref a)) : Ev (tMeth (C_Name K) "is_nothing" (spIsNo K) [] E ta tNil) σ H (.bl (isNo m)) :=
  ev_met h1 (hm_Name_is_nothing hN) ea_nil fun H1 e Q q E => ⟨a, lp, m, ad, rfl, hN.mono e, q⟩
/-- where a name lies: zo gives the sections of a pair -/
def whr (zo : PR → List (Addr × Sn17.Sec)) (pl : Addr → Nat × Nat) (ad : Nat) : PM → Option Nat
  | .sym x => adr (zo x) pl x.s
  | _ => some ad
def spWhr (K : PySem.W.Frag) : Sp := fun vs H Q _ => ∃ (a lp : Addr) (m : PM) (ad : Nat) (zo : PR → List (Addr × Sn17.Sec)) (pl : Addr → Nat × Nat), vs = [.ref a] ∧ NmAt K H a lp m ad ∧
  (∀ x, m = .sym x → PrAt K H x ∧ SqL K H x.c (zsL (zo x)) ∧ (∀ z ∈ zo x, SecAt K H z.1 z.2 (pl z.1).1 (pl z.1).2) ∧ (x.s.sec = 0 ∨ x.s.sec = 65521 ∨ x.s.sec < (zo x).length)) ∧ RetV (ov (whr zo pl ad m)) H Q
theorem ok_Name_whereabouts (T : Tx K mg) : Met P w K mg base 4 (C_Name K) "whereabouts" (spWhr K) := by
  obtain ⟨fd, F⟩ := T.d_Name_whereabouts
  refine met_of F T.c_Name T.m_Name_whereabouts sc_Name_whereabouts (fun vs H Q E h => ?_) (fun _ _ _ _ _ _ us hl => match us, hl with | [_], _ => rfl) (fun cdv A outer s H vs Q E hr h => ⟨_, (pss_cons (ps_if (pt_cmpR op_isN (pe_fldK (K := K) (pv 0)) pe_non (nomark _)) (pss_one (ps_ret (pe_fldK (K := K) (pv 0)))) pss_nil)
      (pss_one (ps_ret (pe_cal (ok_address_of T) (hr.mono (by decide)) passL (pa_cons (pe_ix (ix_tupK (K := K)) (pe_fldK (K := K) (pv 0)) pe_int (fun _ _ => rfl)) (pa_cons (pe_ix (ix_tupK (K := K)) (pe_fldK (K := K) (pv 0)) pe_int (fun _ _ => rfl)) pa_nil)))))), ?_⟩)
  · obtain ⟨a, lp, m, ad, zo, pl, rfl, _⟩ := h
    rfl
  · obtain ⟨a, lp, m, ad, zo, pl, rfl, hN, hx, q⟩ := h
    refine q_when (b := decide (dfV m = .non)) (et_test (ev_op (ev_fl (ev_var rfl) (fl_Name_definition T hN)) ev_c fun H1 e1 Q1 q1 => ⟨rfl, q1 _ (Ex.refl _)⟩)) (fun c1 H1 e1 => ?_) (fun c1 H1 e1 => ?_) <;> rw [no_df] at c1
    · refine s_ret (ev_fl (ev_var rfl) (fl_Name_address T (hN.mono e1))) fun H2 e2 => ?_
      cases m with
      | sym x => cases c1
      | common _ _ => exact q H2 (e1.trans e2)
      | nothing => exact q H2 (e1.trans e2)
    · cases m with
      | common _ _ => cases c1
      | nothing => cases c1
      | sym x =>
        obtain ⟨⟨p1, p2⟩, p3, p4, p5⟩ := hx x rfl
        have N1 := hN.mono e1
        have t1 : SqT K H1 x.t [.ref x.y, .ref x.c] := st_of (e1 _ _ p1)
        refine s_ret (ev_cal (ea_cons (ev_ixT (ev_fl (ev_var rfl) (fl_Name_definition T N1)) t1 (ev_kN 0) rfl) (ea_cons (ev_ixT (ev_fl (ev_var rfl) (fl_Name_definition T N1)) t1 (ev_kN 1) rfl) ea_nil)) fun H2 e2 Q2 q2 E2 => ⟨x.y, x.c, x.s, zo x, pl, rfl, p2.mono (e1.trans e2), ex_l (e1.trans e2) p3, fun z m => (p4 z m).mono (e1.trans e2), p5, q2⟩) fun H2 e2 => q H2 (e1.trans e2)
end
end Lk

set_option Elab.async false
set_option linter.all false
set_option maxRecDepth 100000
set_option maxHeartbeats 4000000
/-! # A name is settled -/
namespace Lk
open PySem PySem.Spec PyProof.Rows L2 Evl He
section
variable {P : Program} {w : World} {K : PySem.W.Frag} {mg : Str → Option Value} {base : Heap}
theorem et_truL {σ : L2.St} {H : Hp} {ta : TE} {p : Addr} {xs : List V} (ha : Ev ta σ H (.ref p)) (h : SqL K H p xs) : EvT (tTruK K ta) σ H (!xs.isEmpty) := fun H1 e Q q => ha H1 e _ fun H2 e2 => ⟨_, Or.inl ⟨xs, ex_l (e.trans e2) h, rfl⟩, q H2 e2⟩
theorem ev_maxN {α : Type} {σ : L2.St} {H : Hp} {te : TE} (f : α → Nat) (z : Nat) (l : List α) (h : EvL te σ H (l.map fun x => V.int ((f x : Nat) : Int))) (hl : l ≠ []) (hz : ∀ x ∈ l, z ≤ f x) : Ev (tCB (rMax K) (tCons te tNil)) σ H (nv (Mx.pMax f z l)) := fun H1 e Q q =>
  h H1 e _ fun p H2 _ e2 h2 => ⟨p, _, rfl, by rw [← ints_nv]; exact SqL.of h2, by
    rw [List.length_map]
    exact List.length_pos_iff.mpr hl, fun m hm hmax => by
    obtain ⟨x, hx, rfl⟩ := List.mem_map.mp hm
    have e3 : Mx.pMax f z l = f x := Mx.max_is (List.mem_map.mpr ⟨x, hx, rfl⟩) (fun y hy => by
      obtain ⟨u, hu, rfl⟩ := List.mem_map.mp hy
      have := hmax _ (List.mem_map.mpr ⟨u, hu, rfl⟩)
      omega) (hz x hx)
    rw [← e3]
    exact q H2 e2⟩
theorem ev_anyN {α : Type} {σ : L2.St} {H : Hp} {te : TE} (f : α → Bool) (l : List α) (h : EvL te σ H (l.map fun x => V.bl (f x))) : Ev (tCB (rAny K) (tCons te tNil)) σ H (.bl (l.any f)) := fun H1 e Q q =>
  h H1 e _ fun p H2 _ e2 h2 => ⟨p, l.map f, rfl, by rw [List.map_map]; exact SqL.of h2, by
    rw [List.any_map]
    exact q H2 e2⟩
theorem PrAt.upN {H H' : Hp} {p : PR} {a C dx lp : Addr} {m : PM} {ad : Nat} (h : PrAt K H p) (ha : H a = some (.ins C dx (nmF lp m ad))) (u : Up a H H') : PrAt K H' p := by
  obtain ⟨h1, dc, tc, h2, h3⟩ := h
  refine ⟨u _ _ h1 (ne_of h1 ha (fun z => nomatch z)), dc, tc, u _ _ h2 (ne_of h2 ha fun z => ?_), u _ _ h3 (ne_of h3 ha (fun z => nomatch z))⟩
  have zz := congrArg (fun o => match o with | HO.ins _ _ fs => fs.length | _ => 0) z
  exact absurd zz (by show ¬ 5 = 6; decide)
def prL (l : List PR) : List V := l.map fun p => V.ref p.t
def spSettle (K : PySem.W.Frag) : Sp := fun vs H Q E => ∃ (a lp : Addr) (prs : List PR), vs = [.ref a] ∧ NmAt K H a lp .nothing 0 ∧ H lp = some (.lst (prL prs)) ∧ (∀ p ∈ prs, PrAt K H p) ∧ prs.length ≤ 16000000 ∧ (∀ p ∈ prs, p.s.sec = 65522 → 1 ≤ p.s.value) ∧
  (∀ m, Mx.settleP PR.s prs = .ok m → ∀ H', NmAt K H' a lp m 0 → Up a H H' → Q .non H') ∧ ErrR K E (Mx.settleP PR.s prs)
theorem ok_Name_settle (T : Tx K mg) : Met P w K mg base 4 (C_Name K) "settle" (spSettle K) := by
  obtain ⟨fd, F⟩ := T.d_Name_settle
  refine met_of F T.c_Name T.m_Name_settle sc_Name_settle (fun vs H Q E h => ?_) (fun _ _ _ _ _ _ us hl => match us, hl with | [_], _ => rfl) (fun cdv A outer s H vs Q E hr h => ⟨_, (pss_cons (ps_setLc (i := 1) (own := [("pair", 4)]) (g := gName 4) rfl sc_Name_settle.nd rfl rfl (sw_true rfl rfl rfl (by decide +kernel)) (pi_listK (K := K) (pe_fldK (K := K) (pv 0))) (blkOk_by (own := [("pair", 4)]) (N := ["self", "definitions", "strong", "commons", "pair", "one"]) (sc := defScope s_Name_settle) (by decide +kernel)) (fun _ _ _ _ _ => pg_name (i := 4) sc_Name_settle.nd rfl (Or.inl rfl)) (fun _ _ _ _ _ => (pts_one (pt_val (pe_met0 (ok_Symbol_is_definition T) (hr.mono (by decide)) passL (pe_ix (ix_tupK (K := K)) (pv 4) pe_int (fun _ _ => rfl)))))) (fun _ _ _ _ _ => (pv 4)))
      (pss_cons (ps_setLc (i := 2) (own := [("pair", 4)]) (g := gName 4) rfl sc_Name_settle.nd rfl rfl (sw_true rfl rfl rfl (by decide +kernel)) (pi_listK (K := K) (pv 1)) (blkOk_by (own := [("pair", 4)]) (N := ["self", "definitions", "strong", "commons", "pair", "one"]) (sc := defScope s_Name_settle) (by decide +kernel)) (fun _ _ _ _ _ => pg_name (i := 4) sc_Name_settle.nd rfl (Or.inl rfl)) (fun _ _ _ _ _ => (pts_one (pt_cmpR op_eq (pe_fldK (K := K) (pe_ix (ix_tupK (K := K)) (pv 4) pe_int (fun _ _ => rfl))) (pe_gi T.v_GLOBAL) (nomark _)))) (fun _ _ _ _ _ => (pv 4)))
      (pss_cons (ps_setLc (i := 3) (own := [("pair", 4)]) (g := gName 4) rfl sc_Name_settle.nd rfl rfl (sw_true rfl rfl rfl (by decide +kernel)) (pi_listK (K := K) (pe_fldK (K := K) (pv 0))) (blkOk_by (own := [("pair", 4)]) (N := ["self", "definitions", "strong", "commons", "pair", "one"]) (sc := defScope s_Name_settle) (by decide +kernel)) (fun _ _ _ _ _ => pg_name (i := 4) sc_Name_settle.nd rfl (Or.inl rfl)) (fun _ _ _ _ _ => (pts_one (pt_cmpR op_eq (pe_fldK (K := K) (pe_ix (ix_tupK (K := K)) (pv 4) pe_int (fun _ _ => rfl))) (pe_gi T.v_COMMON) (nomark _)))) (fun _ _ _ _ _ => (pe_ix (ix_tupK (K := K)) (pv 4) pe_int (fun _ _ => rfl))))
      (pss_cons (ps_if (pt_cmpR op_gt (pe_callB (call_lenK (K := K)) (by rfl) T.b_len PySem.boot_len (pa_cons (pv 2) pa_nil)) pe_int (nomark _)) (pss_one (ps_raiseLow rfl T.low hr (takes_of rfl rfl rfl rfl) (pa_cons (pe_un un_neg pe_int) pa_nil))) pss_nil)
      (pss_one (ps_if (pt_truthK (K := K) (pv 2)) (pss_one (ps_fldK (K := K) (pv 0) (pe_ix (ix_listK (K := K)) (pv 2) pe_int (fun _ _ => rfl)))) (pss_one (ps_if (pt_truthK (K := K) (pv 3)) (pss_cons (ps_fldK (K := K) (pv 0) pe_bl)
      (pss_cons (ps_fldK (K := K) (pv 0) (pe_callB (cr_maxK (K := K) rfl) (by rfl) T.b_max (by decide +kernel) (pa_cons (pe_lc (own := [("one", 5)]) (g := gName 5) rfl sc_Name_settle.nd (pi_listK (K := K) (pv 3)) (blkOk_by (own := [("one", 5)]) (N := ["self", "definitions", "strong", "commons", "pair", "one"]) (sc := defScope s_Name_settle) (by decide +kernel)) (fun _ _ _ _ _ => pg_name (i := 5) sc_Name_settle.nd rfl (Or.inl rfl)) (fun _ _ _ _ _ => pts_nil) (fun _ _ _ _ _ => (pe_fldK (K := K) (pv 5)))) pa_nil)))
      (pss_one (ps_fldK (K := K) (pv 0) (pe_callB (cr_maxK (K := K) rfl) (by rfl) T.b_max (by decide +kernel) (pa_cons (pe_lc (own := [("one", 5)]) (g := gName 5) rfl sc_Name_settle.nd (pi_listK (K := K) (pv 3)) (blkOk_by (own := [("one", 5)]) (N := ["self", "definitions", "strong", "commons", "pair", "one"]) (sc := defScope s_Name_settle) (by decide +kernel)) (fun _ _ _ _ _ => pg_name (i := 5) sc_Name_settle.nd rfl (Or.inl rfl)) (fun _ _ _ _ _ => pts_nil) (fun _ _ _ _ _ => (pe_fldK (K := K) (pv 5)))) pa_nil)))))) (pss_one (ps_if (pt_truthK (K := K) (pv 1)) (pss_one (ps_fldK (K := K) (pv 0) (pe_ix (ix_listK (K := K)) (pv 1) pe_int (fun _ _ => rfl)))) (pss_one (ps_if (pt_val (pe_callB (cr_anyK (K := K) rfl) (by rfl) T.b_any (by decide +kernel) (pa_cons (pe_lc (own := [("pair", 4)]) (g := gName 4) rfl sc_Name_settle.nd (pi_listK (K := K) (pe_fldK (K := K) (pv 0))) (blkOk_by (own := [("pair", 4)]) (N := ["self", "definitions", "strong", "commons", "pair", "one"]) (sc := defScope s_Name_settle) (by decide +kernel)) (fun _ _ _ _ _ => pg_name (i := 4) sc_Name_settle.nd rfl (Or.inl rfl)) (fun _ _ _ _ _ => pts_nil) (fun _ _ _ _ _ => (pe_cmpR op_eq (pe_fldK (K := K) (pe_ix (ix_tupK (K := K)) (pv 4) pe_int (fun _ _ => rfl))) (pe_gi T.v_GLOBAL) (nomark _)))) pa_nil))) (pss_one (ps_raiseLow rfl T.low hr (takes_of rfl rfl rfl rfl) (pa_cons (pe_un un_neg pe_int) pa_nil))) pss_nil)))))))))))), ?_⟩)
  · obtain ⟨a, lp, prs, rfl, _⟩ := h
    rfl
  · obtain ⟨a, lp, prs, rfl, hN, hl, hp, hz, hv, q1, q2⟩ := h
    have ix0 : ∀ {σ : L2.St} {H1 : Hp} {ta : TE} {z : PR}, PrAt K H1 z → Ev ta σ H1 (.ref z.t) → Ev (tOp (rIxT K) ta (tC (.int 0))) σ H1 (.ref z.y) := fun hz ht => ev_ixT ht (st_of hz.1) (ev_kN 0) rfl
    -- definitions
    refine q_asgL (el_lcM (L := prs) (f := fun p => V.ref p.t) (g := fun p => V.ref p.t) (p := fun x => x.s.sec != 0 && x.s.sec != 65522) (ev_fl (ev_var rfl) (fl_Name_symbols T hN)) (SqL.of hl) hz (fun _ => rfl) (fun z m H1 e1 => et_B (ev_isdef ((hp z m).mono e1).2 (ix0 ((hp z m).mono e1) (ev_var rfl)))) (fun z m H1 e1 _ => ev_var rfl)) fun dp H1 hdp e1 h1 => ?_
    have hz1 : (Mx.pDefs PR.s prs).length ≤ 16000000 := Nat.le_trans (List.length_filter_le ..) hz
    have m1 : ∀ z, z ∈ Mx.pDefs PR.s prs → z ∈ prs := fun z m => (List.mem_filter.mp m).1
    have hp1 : ∀ z ∈ Mx.pDefs PR.s prs, PrAt K H1 z := fun z m => (hp z (m1 z m)).mono e1
    -- strong
    refine q_asgL (el_lcM (L := Mx.pDefs PR.s prs) (f := fun p => V.ref p.t) (g := fun p => V.ref p.t) (p := fun x => decide (x.s.bind = 1)) (ev_var rfl) (SqL.of h1) hz1 (fun _ => rfl) (fun z m H2 e2 => et_eqN (ev_fl (ix0 ((hp1 z m).mono e2) (ev_var rfl)) (fl_Symbol_binding T ((hp1 z m).mono e2).2)) (ev_kN 1)) (fun z m H2 e2 _ => ev_var rfl)) fun sp H2 hsp e2 h2 => ?_
    have e12 := e1.trans e2
    have hN2 := hN.mono e12
    have hp2 : ∀ z ∈ prs, PrAt K H2 z := fun z m => (hp z m).mono e12
    -- commons
    refine q_asgL (el_lcM (L := prs) (f := fun p => V.ref p.t) (g := fun p => V.ref p.y) (p := fun x => decide (x.s.sec = 65522)) (ev_fl (ev_var rfl) (fl_Name_symbols T hN2)) (SqL.of (e12 _ _ hl)) hz (fun _ => rfl) (fun z m H3 e3 => et_eqN (ev_fl (ix0 ((hp2 z m).mono e3) (ev_var rfl)) (fl_Symbol_section T ((hp2 z m).mono e3).2)) (ev_kN 65522)) (fun z m H3 e3 _ => ix0 ((hp2 z m).mono e3) (ev_var rfl))) fun cp H3 hcp e3 h3 => ?_
    have e13 := e12.trans e3
    obtain ⟨dx, hN3⟩ := hN.mono e13
    have hN3' : NmAt K H3 a lp .nothing 0 := ⟨dx, hN3⟩
    have hd3 : H3 dp = some (.lst (prL (Mx.pDefs PR.s prs))) := e3 _ _ (e2 _ _ h1)
    have hs3 : H3 sp = some (.lst (prL (Mx.pStrong PR.s prs))) := e3 _ _ h2
    have hc3 : H3 cp = some (.lst ((Mx.pComs PR.s prs).map fun p => V.ref p.y)) := h3
    have hp3 : ∀ z ∈ prs, PrAt K H3 z := fun z m => (hp2 z m).mono e3
    -- more than one
    refine q_when (et_test (ev_gtN (ev_lenL (ev_var rfl) (SqL.of hs3)) (ev_kN 1))) (fun c H4 e4 => ?_) (fun c H4 e4 => ?_)
    · refine ⟨_, rfl, _, rfl, fun d hd => q2 .twice ?_ d _ upd_same⟩
      unfold Mx.settleP
      have c' := of_decide_eq_true c
      unfold prL at c'
      rw [List.length_map] at c'
      rw [if_pos c']
    have d1 : ¬ 1 < (Mx.pStrong PR.s prs).length := by
      have c' := of_decide_eq_false c
      unfold prL at c'
      rw [List.length_map] at c'
      exact c'
    have hset : Mx.settleP PR.s prs = match Mx.pStrong PR.s prs with
      | x :: _ => .ok (.sym x)
      | [] => match Mx.pComs PR.s prs with
        | x :: r => .ok (.common (Mx.pMax (fun z => z.s.size) 0 (x :: r)) (Mx.pMax (fun z => z.s.value) 1 (x :: r)))
        | [] => match Mx.pDefs PR.s prs with
          | x :: _ => .ok (.sym x)
          | [] => if (prs.any fun x => decide (x.s.bind = 1)) = true then .error .missing else .ok .nothing := by
      unfold Mx.settleP
      rw [if_neg d1]
      generalize Mx.pStrong PR.s prs = A
      generalize Mx.pComs PR.s prs = B
      generalize Mx.pDefs PR.s prs = C
      cases A <;> cases B <;> cases C <;> rfl
    have u0 : Up a H H4 := Up.ex (e13.trans e4)
    have N4 := e4 _ _ hN3
    refine s_if (et_truL (ev_var rfl) (SqL.of (e4 _ _ hs3))) (fun b1 H5 e5 => ?_) (fun b1 H5 e5 => ?_)
    · cases hq : Mx.pStrong PR.s prs with
      | nil =>
        rw [hq] at b1
        cases b1
      | cons x r =>
        rw [hq] at hs3 hset
        refine s_fld (v := .ref x.t) (ev_ixL (ev_var rfl) (SqL.of (e5 _ _ (e4 _ _ hs3))) (ev_kN 0) rfl) (ev_var rfl) (e5 _ _ N4) T.c_Name T.n_Name_definition (by show 6 < 1000; decide) fun H6 e6 => ?_
        exact q1 (.sym x) hset _ ⟨dx, by rw [upd_same]; rfl⟩ ((u0.trans (Up.ex (e5.trans e6))).upd)
    have hq : Mx.pStrong PR.s prs = [] := by
      cases hq : Mx.pStrong PR.s prs with
      | nil => rfl
      | cons x r =>
        rw [hq] at b1
        cases b1
    rw [hq] at hset
    have e35 := e4.trans e5
    refine s_if (et_truL (ev_var rfl) (SqL.of (e35 _ _ hc3))) (fun b2 H6 e6 => ?_) (fun b2 H6 e6 => ?_)
    · cases hc : Mx.pComs PR.s prs with
      | nil =>
        rw [hc] at b2
        cases b2
      | cons x r =>
        rw [hc] at hset
        have hne : Mx.pComs PR.s prs ≠ [] := by
          rw [hc]
          exact fun z => nomatch z
        have e36 := e35.trans e6
        have mc : ∀ z, z ∈ Mx.pComs PR.s prs → z ∈ prs ∧ z.s.sec = 65522 := fun z m => by
          obtain ⟨z1, z2⟩ := List.mem_filter.mp m
          exact ⟨z1, of_decide_eq_true z2⟩
        have hzc : (Mx.pComs PR.s prs).length ≤ 16000000 := Nat.le_trans (List.length_filter_le ..) hz
        have N6 := e36 _ _ hN3
        have c6 := e36 _ _ hc3
        have hp6 : ∀ z ∈ prs, PrAt K H6 z := fun z m => (hp3 z m).mono e36
        refine q_fld (v := .bl true) ev_c (ev_var rfl) N6 T.c_Name T.n_Name_is_common (by show 6 < 1000; decide) fun H7 e7 => ?_
        generalize hH7 : upd H7 a (.ins (C_Name K) dx (putF "is_common" (.bl true) (nmF lp .nothing 0))) = H7'
        have N7 : H7' a = some (.ins (C_Name K) dx (putF "is_common" (.bl true) (nmF lp .nothing 0))) := by rw [← hH7]; exact upd_same
        have u7 : Up a H6 H7' := by rw [← hH7]; exact (Up.ex e7).upd
        have hp7 : ∀ z ∈ prs, PrAt K H7' z := fun z m => (hp6 z m).upN N6 u7
        have c7 : H7' cp = some (.lst ((Mx.pComs PR.s prs).map fun p => V.ref p.y)) := u7 _ _ c6 (ne_of c6 N6 (fun z => nomatch z))
        refine q_fld (v := nv (Mx.pMax (fun z : PR => z.s.size) 0 (Mx.pComs PR.s prs))) (ev_maxN (fun z : PR => z.s.size) 0 (Mx.pComs PR.s prs) (ev_lcAll (a := cp) (L := Mx.pComs PR.s prs) (f := fun z => V.ref z.y) (ev_var rfl) (SqL.of c7) hzc (fun _ => rfl) (fun z m H8 e8 => ev_fl (ev_var rfl) (fl_Symbol_size T ((hp7 z (mc z m).1).mono e8).2))) hne (fun _ _ => Nat.zero_le _)) (ev_var rfl) N7 T.c_Name T.n_Name_size (by show 6 < 1000; decide) fun H8 e8 => ?_
        generalize hH8 : upd H8 a (.ins (C_Name K) dx (putF "size" (nv (Mx.pMax (fun z : PR => z.s.size) 0 (Mx.pComs PR.s prs))) (putF "is_common" (.bl true) (nmF lp .nothing 0)))) = H8'
        have N8 : H8' a = some (.ins (C_Name K) dx (putF "size" (nv (Mx.pMax (fun z : PR => z.s.size) 0 (Mx.pComs PR.s prs))) (putF "is_common" (.bl true) (nmF lp .nothing 0)))) := by rw [← hH8]; exact upd_same
        have u8 : Up a H7' H8' := by rw [← hH8]; exact (Up.ex e8).upd
        have hp8 : ∀ z ∈ prs, PrAt K H8' z := fun z m => (hp7 z m).upN (m := .common 0 1) (ad := 0) N7 u8
        have c8 : H8' cp = some (.lst ((Mx.pComs PR.s prs).map fun p => V.ref p.y)) := u8 _ _ c7 (ne_of c7 N7 (fun z => nomatch z))
        refine s_fld (v := nv (Mx.pMax (fun z : PR => z.s.value) 1 (Mx.pComs PR.s prs))) (ev_maxN (fun z : PR => z.s.value) 1 (Mx.pComs PR.s prs) (ev_lcAll (a := cp) (L := Mx.pComs PR.s prs) (f := fun z => V.ref z.y) (ev_var rfl) (SqL.of c8) hzc (fun _ => rfl) (fun z m H8 e8 => ev_fl (ev_var rfl) (fl_Symbol_value T ((hp8 z (mc z m).1).mono e8).2))) hne (fun z m => hv z (mc z m).1 (mc z m).2)) (ev_var rfl) N8 T.c_Name T.n_Name_alignment (by show 6 < 1000; decide) fun H9 e9 => ?_
        rw [hc]
        exact q1 _ hset _ ⟨dx, by rw [upd_same]; rfl⟩ (((((u0.trans (Up.ex (e5.trans e6))).trans u7).trans u8).trans (Up.ex e9)).upd)
    have hc : Mx.pComs PR.s prs = [] := by
      cases hc : Mx.pComs PR.s prs with
      | nil => rfl
      | cons x r =>
        rw [hc] at b2
        cases b2
    rw [hc] at hset
    have e36 := e35.trans e6
    refine s_if (et_truL (ev_var rfl) (SqL.of (e36 _ _ hd3))) (fun b3 H7 e7 => ?_) (fun b3 H7 e7 => ?_)
    · cases hd : Mx.pDefs PR.s prs with
      | nil =>
        rw [hd] at b3
        cases b3
      | cons x r =>
        rw [hd] at hd3 hset
        refine s_fld (v := .ref x.t) (ev_ixL (ev_var rfl) (SqL.of (e7 _ _ (e36 _ _ hd3))) (ev_kN 0) rfl) (ev_var rfl) (e7 _ _ (e36 _ _ hN3)) T.c_Name T.n_Name_definition (by show 6 < 1000; decide) fun H8 e8 => ?_
        exact q1 (.sym x) hset _ ⟨dx, by rw [upd_same]; rfl⟩ ((u0.trans (Up.ex (((e5.trans e6).trans e7).trans e8))).upd)
    have hd : Mx.pDefs PR.s prs = [] := by
      cases hd : Mx.pDefs PR.s prs with
      | nil => rfl
      | cons x r =>
        rw [hd] at b3
        cases b3
    rw [hd] at hset
    have e37 := e36.trans e7
    have hp7 : ∀ z ∈ prs, PrAt K H7 z := fun z m => (hp3 z m).mono e37
    refine s_when (et_B (ev_anyN (fun x : PR => decide (x.s.bind = 1)) prs (ev_lcAll (a := lp) (L := prs) (f := fun z => V.ref z.t) (ev_fl (ev_var rfl) (fl_Name_symbols T (hN3'.mono e37))) (SqL.of (e37 _ _ (e13 _ _ hl))) hz (fun _ => rfl) (fun z m H8 e8 => ev_eqN (ev_fl (ix0 ((hp7 z m).mono e8) (ev_var rfl)) (fl_Symbol_binding T ((hp7 z m).mono e8).2)) (ev_kN 1))))) (fun c4 H8 e8 => ?_) (fun c4 H8 e8 => ?_)
    · refine ⟨_, rfl, _, rfl, fun d hd => q2 .missing ?_ d _ upd_same⟩
      rw [hset]
      show (if _ then _ else _) = _
      rw [if_pos c4]
    · refine q1 .nothing ?_ _ (hN3'.mono (e37.trans e8)) (Up.ex (e13.trans (e37.trans e8)))
      rw [hset]
      show (if _ then _ else _) = _
      rw [if_neg (by rw [c4]; decide)]
end
end Lk

/-! # Plain law: names in their order, the globals of objects -/
namespace Mx
open Sn17
theorem once_snoc (l : List Bytes) (x : Bytes) : once (l ++ [x]) = if (once l).contains x = true then once l else once l ++ [x] := by
  unfold once
  rw [List.foldl_append]
  rfl
theorem once_mem (x : Bytes) : ∀ l : List Bytes, x ∈ once l ↔ x ∈ l := by
  have go : ∀ (l m : List Bytes), x ∈ l.foldl (fun m x => if m.contains x = true then m else m ++ [x]) m ↔ x ∈ m ∨ x ∈ l := by
    intro l
    induction l with
    | nil => intro m; simp
    | cons y r ih =>
      intro m
      rw [List.foldl_cons, ih]
      by_cases h : m.contains y = true
      · rw [if_pos h, List.mem_cons]
        have hy : y ∈ m := by simpa using h
        constructor
        · rintro (z | z)
          · exact .inl z
          · exact .inr (.inr z)
        · rintro (z | z | z)
          · exact .inl z
          · rw [z]; exact .inl hy
          · exact .inr z
      · rw [if_neg h]
        simp only [List.mem_append, List.mem_cons, List.mem_nil_iff, or_false, or_assoc]
  intro l
  have z := go l []
  unfold once
  rw [z]
  simp
def globOf (i : Nat) (l : List Sym) : List (Bytes × Nat × Sym) := (l.filter fun s => s.bind != 0).map fun s => (s.name, i, s)
theorem globals_snoc (os : List Obj) (o : Obj) : globals (os ++ [o]) = globals os ++ globOf os.length o.syms := by
  unfold globals
  rw [List.zipIdx_append, List.flatMap_append]
  congr 1
  simp [List.zipIdx, globOf]
theorem globOf_snoc (i : Nat) (l : List Sym) (s : Sym) : globOf i (l ++ [s]) = globOf i l ++ (if s.bind = 0 then [] else [(s.name, i, s)]) := by
  unfold globOf
  rw [List.filter_append, List.map_append]
  congr 1
  by_cases h : s.bind = 0
  · rw [if_pos h]
    simp [h]
  · rw [if_neg h]
    simp [h]
theorem globOf_len (i : Nat) (l : List Sym) : (globOf i l).length ≤ l.length := by
  unfold globOf
  rw [List.length_map]
  exact List.length_filter_le ..
theorem nodup_inj {α β : Type} {f : α → β} : ∀ {l : List α}, (l.map f).Nodup → ∀ {x y : α}, x ∈ l → y ∈ l → f x = f y → x = y
  | [], _, _, _, h, _, _ => nomatch h
  | a :: r, hn, x, y, hx, hy, e => by
    rw [List.map_cons, List.nodup_cons] at hn
    rcases List.mem_cons.mp hx with h1 | h1
    · rcases List.mem_cons.mp hy with h2 | h2
      · rw [h1, h2]
      · exact absurd (List.mem_map.mpr ⟨y, h2, by rw [← e, h1]⟩) hn.1
    · rcases List.mem_cons.mp hy with h2 | h2
      · exact absurd (List.mem_map.mpr ⟨x, h1, by rw [e, h2]⟩) hn.1
      · exact nodup_inj hn.2 h1 h2 e
theorem find_split {α : Type} {p : α → Bool} : ∀ {l : List α}, (∃ x ∈ l, p x = true) → ∃ a x b, l = a ++ x :: b ∧ p x = true
  | [], ⟨_, h, _⟩ => nomatch h
  | y :: r, ⟨x, h, e⟩ => by
    cases hy : p y with
    | true => exact ⟨[], y, r, rfl, hy⟩
    | false =>
      rcases List.mem_cons.mp h with z | z
      · rw [z, hy] at e
        cases e
      · obtain ⟨a, x', b, e1, e2⟩ := find_split ⟨x, z, e⟩
        exact ⟨y :: a, x', b, by rw [e1]; rfl, e2⟩
end Mx

set_option Elab.async false
set_option linter.all false
set_option maxRecDepth 100000
set_option maxHeartbeats 4000000
/-! # The names of objects, in a dict -/
namespace Lk
open PySem PySem.Spec PyProof.Rows L2 Evl He
/-- a name: its text, its object, the list of its pairs, these -/
structure NR where
  n : List Nat
  a : Addr
  lp : Addr
  prs : List PR
def kOf (n : List Nat) : List Key := n.map fun (x : Nat) => Sum.inl (x : Int)
theorem kOf_kV (n : List Nat) : (kOf n).map kV = iv n := by
  unfold kOf iv
  rw [List.map_map]
  rfl
theorem kOf_inj : ∀ {m n : List Nat}, kOf m = kOf n → m = n
  | [], [], _ => rfl
  | [], _ :: _, h => nomatch h
  | _ :: _, [], h => nomatch h
  | x :: m, y :: n, h => by
    unfold kOf at h
    rw [List.map_cons, List.map_cons] at h
    injection h with h1 h2
    injection h1 with h3
    rw [kOf_inj (m := m) (n := n) h2, show x = y by omega]
def nkv (ns : List NR) : List (List Key × V) := ns.map fun r => (kOf r.n, V.ref r.a)
theorem nkv_val {ns : List NR} {n : List Nat} : (valV (nkv ns) (kOf n)) = (ns.find? fun r => decide (r.n = n)).map fun r => V.ref r.a := by
  induction ns with
  | nil => rfl
  | cons r l ih =>
    have e : nkv (r :: l) = (kOf r.n, V.ref r.a) :: nkv l := rfl
    rw [e]
    by_cases h : r.n = n
    · rw [valV_pos (by rw [h]), List.find?_cons_of_pos (by simp [h])]
      rfl
    · rw [valV_neg (fun z => h (kOf_inj z)), ih, List.find?_cons_of_neg (by simp [h])]
theorem find_in {ns : List NR} {r : NR} (hn : (ns.map (·.n)).Nodup) (h : r ∈ ns) : ns.find? (fun x => decide (x.n = r.n)) = some r := by
  cases e : ns.find? (fun x => decide (x.n = r.n)) with
  | none =>
    have z := List.find?_eq_none.mp e r h
    simp at z
  | some x =>
    have h1 := List.mem_of_find?_eq_some e
    have h2 : x.n = r.n := by simpa using List.find?_some e
    rw [Mx.nodup_inj hn h1 h h2]
theorem val_in {ns : List NR} {r : NR} (hn : (ns.map (·.n)).Nodup) (h : r ∈ ns) : valV (nkv ns) (kOf r.n) = some (.ref r.a) := by
  rw [nkv_val, find_in hn h]
  rfl
theorem val_no {ns : List NR} {n : List Nat} (h : ∀ r ∈ ns, r.n ≠ n) : valV (nkv ns) (kOf n) = none := by
  rw [nkv_val, List.find?_eq_none.mpr fun r hr => by simpa using h r hr]
  rfl
theorem put_no {ns : List NR} {n : List Nat} {v : V} (h : ∀ r ∈ ns, r.n ≠ n) : putK (nkv ns) (kOf n) v = nkv ns ++ [(kOf n, v)] := by
  unfold putK
  rw [valV_any, val_no h]
  rfl
section
variable {K : PySem.W.Frag} {σ : L2.St} {H : Hp} {ty td : TE} {a t : Addr} {o : Option V} {kvs : List (List Key × V)} {k : List Key}
theorem ev_notin (hy : Ev ty σ H (.ref t)) (hd : Ev td σ H (.ref a)) (h : H a = some (.dT kvs)) (ht : H t = some (.tup (k.map kV))) : Ev (tDNotIn ty td) σ H (.bl (!(valV kvs k).isSome)) := fun H1 e Q q =>
  hy H1 e _ fun H2 e2 => hd H2 (e.trans e2) _ fun H3 e3 => ⟨a, _, rfl, DGet.t ((e.trans e2).trans e3 _ _ h) ((e.trans e2).trans e3 _ _ ht), q H3 (e2.trans e3)⟩
theorem ev_dgetT {v : V} (hd : Ev td σ H (.ref a)) (hy : Ev ty σ H (.ref t)) (h : Rd H a (.dT kvs)) (ht : H t = some (.tup (k.map kV))) (hv : valV kvs k = some v) : Ev (tDGet td ty) σ H v := fun H1 e Q q =>
  hd H1 e _ fun H2 e2 => hy H2 (e.trans e2) _ fun H3 e3 => ⟨a, v, rfl, .inr ⟨kvs, k, t, ex_rd ((e.trans e2).trans e3) h, rfl, (e.trans e2).trans e3 _ _ ht, hv.symm⟩, q H3 (e2.trans e3)⟩
end
theorem s_appUW {K : PySem.W.Frag} {σ : L2.St} {H : Hp} {ta te : TE} {D : Ends} {l : Addr} {xs ys : List V} (hl : H l = some (.lst xs)) (ha : Ev ta σ H (.ref l)) (h : EvU te σ H ys) (hz : xs.length < 16777216) (k : ∀ p H1, H p = none → Ex H H1 → H1 p = some (.tup ys) → D.nx σ (upd H1 l (.lst (xs ++ [.ref p])))) :
    tDrop (tBM K "list" rAppend ta (tCons te tNil)) D σ H := ha H (Ex.refl H) _ fun H1 e1 =>
  ⟨Or.inl ⟨rfl, xs, sq_of (e1 l _ hl)⟩, h H1 e1 _ fun p H2 hp e2 h2 => ⟨l, xs, _, rfl, rfl, e2 l _ (e1 l _ hl), by rw [sizeLine_eq]; exact hz, k p H2 (fresh_back e1 hp) (e1.trans e2) h2⟩⟩
def PIn (ds : List OD) (p : PR) : Prop := ∃ d, ds[p.o]? = some d ∧ d.secs = p.c ∧ (p.y, p.s) ∈ d.zy
/-- the names as they stand: H0 ahead of them, gs the globals that are in them -/
structure Nms (K : PySem.W.Frag) (H0 H : Hp) (fp : Addr) (ds : List OD) (gs : List (List Nat × Nat × Sn17.Sym)) (ns : List NR) : Prop where
  ex : Ex H0 H
  dict : H fp = some (.dT (nkv ns))
  nd : (ns.map (·.n)).Nodup
  pr : ∀ r ∈ ns, r.prs.map PR.g = (gs.filter fun x => x.1 == r.n).map (·.2)
  nm : ∀ r ∈ ns, NmAt K H r.a r.lp .nothing 0
  lst : ∀ r ∈ ns, H r.lp = some (.lst (prL r.prs))
  at_ : ∀ r ∈ ns, ∀ p ∈ r.prs, PrAt K H p ∧ PIn ds p
  ndl : (ns.map (·.lp)).Nodup
  nda : (ns.map (·.a)).Nodup
  fa : ∀ r ∈ ns, H0 r.a = none
  fl : ∀ r ∈ ns, H0 r.lp = none
section
variable {P : Program} {w : World} {K : PySem.W.Frag} {mg : Str → Option Value} {base : Heap}
theorem Nms.mono {H0 H H' : Hp} {fp : Addr} {ds : List OD} {gs : List (List Nat × Nat × Sn17.Sym)} {ns : List NR} (h : Nms K H0 H fp ds gs ns) (e : Ex H H') : Nms K H0 H' fp ds gs ns :=
  ⟨h.ex.trans e, e _ _ h.dict, h.nd, h.pr, fun r m => (h.nm r m).mono e, fun r m => e _ _ (h.lst r m), fun r m p mp => ⟨((h.at_ r m p mp).1).mono e, (h.at_ r m p mp).2⟩, h.ndl, h.nda, h.fa, h.fl⟩
theorem prs_len {H0 H : Hp} {fp : Addr} {ds : List OD} {gs : List (List Nat × Nat × Sn17.Sym)} {ns : List NR} (h : Nms K H0 H fp ds gs ns) {r : NR} (m : r ∈ ns) : r.prs.length ≤ gs.length := by
  have z := congrArg List.length (h.pr r m)
  rw [List.length_map, List.length_map] at z
  rw [z]
  exact List.length_filter_le ..
def spNames (K : PySem.W.Frag) : Sp := fun vs H Q _ => ∃ (p : Addr) (ds : List OD) (pl : Addr → Nat × Nat), vs = [.ref p] ∧ SqL K H p (dsL ds) ∧ Wd K H ds pl ∧ (∀ d ∈ ds, d.zy.length ≤ 65536) ∧ ds.length ≤ 64 ∧
  ∀ (fp : Addr) (ns : List NR) (H' : Hp), H fp = none → Nms K H H' fp ds (Sn17.globals (ds.map OD.obj)) ns → ns.map (·.n) = Sn17.once ((Sn17.globals (ds.map OD.obj)).map (·.1)) → (Sn17.globals (ds.map OD.obj)).length ≤ 4194304 → ns.length ≤ 4194304 → Q (.ref fp) H'
theorem ok_names_of (T : Tx K mg) : Cal P w K mg base 3 "names_of" (spNames K) := by
  obtain ⟨fd, F⟩ := T.d_names_of
  refine cal_of F T.g_names_of sc_names_of (fun vs H Q E h => ?_) (fun _ _ _ _ _ _ us hl => match us, hl with | [_], _ => rfl) (fun cdv A outer s H vs Q E hr h => ⟨_, (pss_cons (ps_set (i := 1) sc_names_of.nd rfl (Or.inl rfl) pe_dnewT)
      (pss_cons (ps_for (passes_of rfl) rfl (pi_listK (K := K) (pv 0)) (pg_name (i := 2) sc_names_of.nd rfl (Or.inl rfl)) (pss_one (ps_for (passes_of rfl) rfl (pi_listK (K := K) (pe_fldK (K := K) (pv 2))) (pg_name (i := 3) sc_names_of.nd rfl (Or.inl rfl)) (pss_one (ps_if (pt_cmpR op_ne (pe_fldK (K := K) (pv 3)) (pe_gi T.v_LOCAL) (nomark _)) (pss_cons (ps_if (pt_cmp (pc_dnotin (hu_of hr) (pe_fldK (K := K) (pv 3)) (pv 1))) (pss_one (ps_dput (hu_of hr) (pv 1) (pe_fldK (K := K) (pv 3)) (pe_mak0 (ok_Name_init T) (hr.mono (by decide)) passL) rfl)) pss_nil)
      (pss_cons (ps_set (i := 4) sc_names_of.nd rfl (Or.inl rfl) (pe_dget (hu_of hr) (pv 1) (pe_fldK (K := K) (pv 3)) (fun _ _ => rfl)))
      (pss_one (ps_expr (pe_bmK (K := K) PySem.F.plainAttrs_list PySem.F.slot_list_append PySem.F.type_list_append mt_append (pe_fldK (K := K) (pv 4)) (pa_cons (pe_tup (pa_cons (pv 3) (pa_cons (pe_fldK (K := K) (pv 2)) pa_nil))) pa_nil)))))) pss_nil)))))
      (pss_one (ps_ret (pv 1))))), ?_⟩)
  · obtain ⟨p, ds, pl, rfl, _⟩ := h
    rfl
  · obtain ⟨p, ds, pl, rfl, hL, W, hzl, hdl, q⟩ := h
    intro fp hfp
    have e1 : Ex H (upd H fp (.dT [])) := Ex.new hfp
    have d1 : (upd H fp (.dT [])) fp = some (.dT (nkv [])) := upd_same
    refine q_forM (L := ds) (f := fun d => V.ref d.told) (ev_var rfl) (ex_l e1 hL) (fun pre σ' H' => ∃ (v2 v3 v4 : Option V) (ns : List NR), σ' = [some (.ref p), some (.ref fp), v2, v3, v4] ∧ Nms K H H' fp ds (Sn17.globals (pre.map OD.obj)) ns ∧
      ns.map (·.n) = Sn17.once ((Sn17.globals (pre.map OD.obj)).map (·.1)) ∧ ns.length ≤ (Sn17.globals (pre.map OD.obj)).length ∧ (Sn17.globals (pre.map OD.obj)).length ≤ 65536 * pre.length)
      (fun H2 e2 => ⟨none, none, none, [], rfl, ⟨e1.trans e2, e2 _ _ d1, List.nodup_nil, (fun r m => nomatch m), (fun r m => nomatch m), (fun r m => nomatch m), (fun r m => nomatch m), List.nodup_nil, List.nodup_nil, (fun r m => nomatch m), (fun r m => nomatch m)⟩, rfl, Nat.zero_le _, Nat.zero_le _⟩) (fun pre σ' H' pp => by
        obtain ⟨_, _, _, _, _, N, _⟩ := pp
        exact ex_l N.ex hL) ?_ ?_
    rotate_left
    · rintro σ' H' ⟨v2, v3, v4, ns, rfl, N, hk, hl1, hl2⟩
      exact s_ret (ev_var rfl) fun H2 e2 => q fp ns H2 hfp (N.mono e2) hk (by omega) (by omega)
    rintro pre d post σ' H' hsp ⟨v2, v3, v4, ns, rfl, N, hk, hl1, hl2⟩
    have hm : d ∈ ds := by rw [hsp]; simp
    have hpl : pre.length < 64 := by
      have z := congrArg List.length hsp
      rw [List.length_append, List.length_cons] at z
      omega
    have hix : ds[pre.length]? = some d := by
      rw [hsp, List.getElem?_append_right (Nat.le_refl _), Nat.sub_self]
      rfl
    have O0 := W.obj d hm
    obtain ⟨dxt, ht0⟩ := O0.told
    have tH : ∀ {H1 : Hp}, Ex H H1 → H1 d.told = some (.ins (C_Told K) dxt (toldF d)) := fun e => e _ _ ht0
    have sH : ∀ {H1 : Hp}, Ex H H1 → ∀ z ∈ d.zy, SymAt K H1 z.1 z.2 := fun e z m => (O0.sym z m).mono e
    generalize hG : Sn17.globals (pre.map OD.obj) = G at *
    have hGs : Sn17.globals ((pre ++ [d]).map OD.obj) = G ++ Mx.globOf pre.length (d.zy.map (·.2)) := by
      rw [List.map_append, List.map_cons, List.map_nil, Mx.globals_snoc, hG, List.length_map]
      rfl
    have hbd : ∀ pre2 post2, d.zy = pre2 ++ post2 → (G ++ Mx.globOf pre.length (pre2.map (·.2))).length ≤ 65536 * pre.length + pre2.length := by
      intro pre2 post2 _
      have z := Mx.globOf_len pre.length (pre2.map (·.2))
      rw [List.length_map] at z
      rw [List.length_append]
      omega
    refine s_forM (L := d.zy) (f := fun z => V.ref z.1) (ev_fl (ev_var rfl) (fl_Told_symbols T (tH N.ex))) (SqL.of (N.ex _ _ O0.syms)) (fun pre2 σ' H' => ∃ (v3 v4 : Option V) (ns : List NR), σ' = [some (.ref p), some (.ref fp), some (.ref d.told), v3, v4] ∧ Nms K H H' fp ds (G ++ Mx.globOf pre.length (pre2.map (·.2))) ns ∧
      ns.map (·.n) = Sn17.once ((G ++ Mx.globOf pre.length (pre2.map (·.2))).map (·.1)) ∧ ns.length ≤ (G ++ Mx.globOf pre.length (pre2.map (·.2))).length) (fun H2 e2 => ⟨v3, v4, ns, rfl, by
        rw [show Mx.globOf pre.length (([] : List (Addr × Sn17.Sym)).map (·.2)) = [] from rfl, List.append_nil]
        exact ⟨N.mono e2, hk, hl1⟩⟩) (fun pre2 σ' H' pp => by
        obtain ⟨_, _, _, _, N, _⟩ := pp
        exact SqL.of (N.ex _ _ O0.syms)) ?_ ?_
    rotate_left
    · rintro σ' H' ⟨v3', v4', ns', rfl, N', hk', hl'⟩
      refine ⟨some (.ref d.told), v3', v4', ns', rfl, ?_⟩
      rw [hGs]
      refine ⟨N', hk', hl', ?_⟩
      have z := hbd d.zy [] (by rw [List.append_nil])
      have := hzl d hm
      have hle : (pre ++ [d]).length = pre.length + 1 := by rw [List.length_append]; rfl
      rw [hle]
      omega
    rintro pre2 ⟨y, s⟩ post2 σ' H' hsp2 ⟨v3', v4', ns', rfl, N', hk', hl'⟩
    have hm2 : (y, s) ∈ d.zy := by rw [hsp2]; simp
    have hgb := hbd pre2 _ hsp2
    have hp2 : pre2.length < d.zy.length := by
      rw [hsp2, List.length_append, List.length_cons]
      omega
    have hz65 := hzl d hm
    have hgs : G ++ Mx.globOf pre.length ((pre2 ++ [(y, s)]).map (·.2)) = (G ++ Mx.globOf pre.length (pre2.map (·.2))) ++ (if s.bind = 0 then [] else [(s.name, pre.length, s)]) := by
      rw [List.map_append, List.map_cons, List.map_nil, Mx.globOf_snoc, List.append_assoc]
    rw [hgs]
    generalize hG2 : G ++ Mx.globOf pre.length (pre2.map (·.2)) = G2 at *
    refine s_when (et_neN (ev_fl (ev_var rfl) (fl_Symbol_binding T (sH N'.ex _ hm2))) (ev_kN 0)) (fun c1 H1 ee1 => ?_) (fun c1 H1 ee1 => ?_)
    rotate_left
    · have d0 : s.bind = 0 := by simpa using c1
      refine ⟨some (.ref y), v4', ns', rfl, ?_⟩
      rw [if_pos d0, List.append_nil]
      exact ⟨N'.mono ee1, hk', hl'⟩
    have d0 : ¬ s.bind = 0 := by simpa using c1
    rw [if_neg d0]
    have N1 := N'.mono ee1
    obtain ⟨nt, fnt0, hnt0⟩ := nm_Symbol T (O0.sym _ hm2)
    have keyAt : ∀ {H1 : Hp}, Ex H H1 → H1 nt = some (.tup ((kOf s.name).map kV)) := fun e => by
      rw [kOf_kV]
      exact e _ _ hnt0
    -- what follows when the name is there
    have rest : ∀ {D : Ends} (ns1 : List NR) (H2 : Hp), Nms K H H2 fp ds G2 ns1 → (∃ r ∈ ns1, r.n = s.name) → (∀ (v : V) (ns2 : List NR) (H3 : Hp), ns2.map (·.n) = ns1.map (·.n) → ns2.length = ns1.length → Nms K H H3 fp ds (G2 ++ [(s.name, pre.length, s)]) ns2 → D.nx [some (.ref p), some (.ref fp), some (.ref d.told), some (.ref y), some v] H3) →
        tSeq (tAsg (tDGet (tVar 1) (tFld K (tVar 3) "name")) (gName 4)) (tDrop (tBM K "list" rAppend (tFld K (tVar 4) "symbols") (tCons (tTup (tCons (tVar 3) (tCons (tFld K (tVar 2) "sections") tNil))) tNil))) D [some (.ref p), some (.ref fp), some (.ref d.told), some (.ref y), v4'] H2 := by
      intro D ns1 H2 M hex kk
      obtain ⟨A, r, B, hs1, hr⟩ := Mx.find_split (p := fun r : NR => decide (r.n = s.name)) (l := ns1) (by
        obtain ⟨r, h1, h2⟩ := hex
        exact ⟨r, h1, by simpa using h2⟩)
      have hrn : r.n = s.name := of_decide_eq_true hr
      have mr : r ∈ ns1 := by rw [hs1]; simp
      refine q_asg (v := .ref r.a) (ev_dgetT (ev_var rfl) (ev_fl (ev_var rfl) (fnt0.mono M.ex)) (.inl M.dict) (keyAt M.ex) (by rw [← hrn]; exact val_in M.nd mr)) fun H3 e3 => ?_
      have M3 := M.mono e3
      have hpr3 := prs_len M3 mr
      refine s_appUW (l := r.lp) (xs := prL r.prs) (ys := [.ref y, .ref d.secs]) (M3.lst r mr) (ev_fl (ev_var rfl) (fl_Name_symbols T (M3.nm r mr))) (eu_tup (ea_cons (ev_var rfl) (ea_cons (ev_fl (ev_var rfl) (fl_Told_sections T (tH M3.ex))) ea_nil)) (show 2 ≤ 100000 by decide)) (by unfold prL; rw [List.length_map]; omega) fun t H5 ht e5 h5 => ?_
      have M5 := M3.mono e5
      have l5 := M5.lst r mr
      generalize hH6 : upd H5 r.lp (.lst (prL r.prs ++ [.ref t])) = H6
      have u6 : Up r.lp H5 H6 := by rw [← hH6]; exact (Up.refl _ _).upd
      have l6 : H6 r.lp = some (.lst (prL r.prs ++ [.ref t])) := by rw [← hH6]; exact upd_same
      have x6 : Ex H H6 := Up.exF (M5.fl r mr) M5.ex u6
      have keepP : ∀ {pp : PR}, PrAt K H5 pp → PrAt K H6 pp := fun {pp} ⟨h1, dc, tc, h2, h3⟩ => ⟨u6 _ _ h1 (ne_of h1 l5 (fun z => nomatch z)), dc, tc, u6 _ _ h2 (ne_of h2 l5 (fun z => nomatch z)), u6 _ _ h3 (ne_of h3 l5 (fun z => nomatch z))⟩
      have hndl : ∀ r' ∈ ns1, r'.n ≠ s.name → r'.lp ≠ r.lp := fun r' m' hn z => hn (by rw [Mx.nodup_inj M5.ndl m' mr z, hrn])
      have hAB : ∀ r', r' ∈ A ∨ r' ∈ B → r' ∈ ns1 ∧ r'.n ≠ s.name := by
        intro r' m'
        have m1 : r' ∈ ns1 := by
          rw [hs1, List.mem_append, List.mem_cons]
          rcases m' with z | z
          · exact .inl z
          · exact .inr (.inr z)
        refine ⟨m1, fun z => ?_⟩
        have hnd := M5.nd
        rw [hs1, List.map_append, List.map_cons, List.nodup_append, List.nodup_cons] at hnd
        rcases m' with y1 | y1
        · exact hnd.2.2 _ (List.mem_map.mpr ⟨r', y1, rfl⟩) _ (List.mem_cons_self ..) (by rw [z, hrn])
        · exact hnd.2.1.1 (List.mem_map.mpr ⟨r', y1, by rw [z, hrn]⟩)
      have memI : ∀ r', r' ∈ A ++ ⟨r.n, r.a, r.lp, r.prs ++ [⟨t, y, d.secs, pre.length, s⟩]⟩ :: B → r' = ⟨r.n, r.a, r.lp, r.prs ++ [⟨t, y, d.secs, pre.length, s⟩]⟩ ∨ (r' ∈ ns1 ∧ r'.n ≠ s.name) := fun r' m' => by
        rw [List.mem_append, List.mem_cons] at m'
        rcases m' with z | z | z
        · exact .inr (hAB r' (.inl z))
        · exact .inl z
        · exact .inr (hAB r' (.inr z))
      have enn : ∀ {β : Type} (f : NR → β), f ⟨r.n, r.a, r.lp, r.prs ++ [⟨t, y, d.secs, pre.length, s⟩]⟩ = f r → (A ++ ⟨r.n, r.a, r.lp, r.prs ++ [⟨t, y, d.secs, pre.length, s⟩]⟩ :: B).map f = ns1.map f := fun f hf => by
        rw [hs1, List.map_append, List.map_append, List.map_cons, List.map_cons, hf]
      refine kk (.ref r.a) (A ++ ⟨r.n, r.a, r.lp, r.prs ++ [⟨t, y, d.secs, pre.length, s⟩]⟩ :: B) H6 (enn _ rfl) (by rw [hs1, List.length_append, List.length_append, List.length_cons, List.length_cons]) ⟨x6, ?_, by rw [enn _ rfl]; exact M5.nd, fun r' m' => ?_, fun r' m' => ?_, fun r' m' => ?_, fun r' m' pp mp => ?_, by rw [enn _ rfl]; exact M5.ndl, by rw [enn _ rfl]; exact M5.nda, fun r' m' => ?_, fun r' m' => ?_⟩
      · have z : nkv (A ++ ⟨r.n, r.a, r.lp, r.prs ++ [⟨t, y, d.secs, pre.length, s⟩]⟩ :: B) = nkv ns1 := enn _ rfl
        rw [z]
        exact u6 _ _ M5.dict (ne_of M5.dict l5 (fun z => nomatch z))
      · rw [List.filter_append, List.map_append]
        rcases memI r' m' with z | ⟨z1, z2⟩
        · subst z
          show (r.prs ++ [_]).map PR.g = _
          rw [List.map_append, M5.pr r mr]
          congr 1
          rw [List.filter_cons, if_pos (by simp [hrn])]
          rfl
        · rw [M5.pr r' z1, List.filter_cons, if_neg (by simpa using fun z => z2 z.symm)]
          rw [List.filter_nil, List.map_nil, List.append_nil]
      · rcases memI r' m' with z | ⟨z1, z2⟩
        · subst z
          obtain ⟨dn, hn⟩ := M5.nm r mr
          exact ⟨dn, u6 _ _ hn (ne_of hn l5 (fun z => nomatch z))⟩
        · obtain ⟨dn, hn⟩ := M5.nm r' z1
          exact ⟨dn, u6 _ _ hn (ne_of hn l5 (fun z => nomatch z))⟩
      · rcases memI r' m' with z | ⟨z1, z2⟩
        · subst z
          show H6 r.lp = some (.lst (prL (r.prs ++ [_])))
          rw [l6]
          unfold prL
          rw [List.map_append]
          rfl
        · exact u6 _ _ (M5.lst r' z1) (hndl r' z1 z2)
      · rcases memI r' m' with z | ⟨z1, z2⟩
        · subst z
          rcases List.mem_append.mp mp with m3 | m3
          · exact ⟨keepP (M5.at_ r mr pp m3).1, (M5.at_ r mr pp m3).2⟩
          · have ep : pp = ⟨t, y, d.secs, pre.length, s⟩ := by simpa using m3
            subst ep
            exact ⟨keepP ⟨h5, sH M5.ex _ hm2⟩, d, hix, rfl, hm2⟩
        · exact ⟨keepP (M5.at_ r' z1 pp mp).1, (M5.at_ r' z1 pp mp).2⟩
      · rcases memI r' m' with z | ⟨z1, z2⟩
        · subst z
          exact M5.fa r mr
        · exact M5.fa r' z1
      · rcases memI r' m' with z | ⟨z1, z2⟩
        · subst z
          exact M5.fl r mr
        · exact M5.fl r' z1
    have hgm : (G2 ++ [(s.name, pre.length, s)]).map (·.1) = G2.map (·.1) ++ [s.name] := by
      rw [List.map_append]
      rfl
    -- is it there?
    refine q_when (et_test (ev_notin (ev_fl (ev_var rfl) (fnt0.mono N1.ex)) (ev_var rfl) N1.dict (keyAt N1.ex))) (fun c2 H2 ee2 => ?_) (fun c2 H2 ee2 => ?_)
    · -- a new name
      have hno : ∀ r ∈ ns', r.n ≠ s.name := fun r mr z => by
        rw [← z, val_in N1.nd mr] at c2
        cases c2
      intro x dx nx ndx ne
      refine ⟨x, dx, rfl, upd_same, fun lp H3 hlp h3 hl3 u3 => ⟨rfl, ?_⟩⟩
      have N2 := N1.mono ee2
      have exm : Ex H2 (upd (upd H2 dx (.own x)) x (.ins (C_Name K) dx [])) := fun c u hc => by rw [upd_ne (ne_of_none hc nx), upd_ne (ne_of_none hc ndx)]; exact hc
      have e23 : Ex H2 H3 := Up.made nx ndx u3
      have nlp : H2 lp = none := none_made hlp
      have N3 := N2.mono e23
      refine ⟨_, rfl, ?_⟩
      refine (ev_fl (ev_var rfl) (fnt0.mono N3.ex)) H3 (Ex.refl H3) _ fun H4 e4 => ?_
      have N4 := N3.mono e4
      have hns4 : (nkv ns').length < sizeLine := by
        unfold nkv
        rw [List.length_map, sizeLine_eq]
        omega
      refine ⟨fp, _, rfl, DPut.t N4.dict (keyAt N4.ex) hns4, ?_⟩
      rw [put_no hno]
      generalize hH5 : upd H4 fp (.dT (nkv ns' ++ [(kOf s.name, V.ref x)])) = H5
      have u5 : Up fp H4 H5 := by rw [← hH5]; exact (Up.refl _ _).upd
      have d5 : H5 fp = some (.dT (nkv ns' ++ [(kOf s.name, V.ref x)])) := by rw [← hH5]; exact upd_same
      have keepP : ∀ {pp : PR}, PrAt K H4 pp → PrAt K H5 pp := fun {pp} ⟨h1, dc, tc, h2, h3⟩ => ⟨u5 _ _ h1 (ne_of h1 N4.dict (fun z => nomatch z)), dc, tc, u5 _ _ h2 (ne_of h2 N4.dict (fun z => nomatch z)), u5 _ _ h3 (ne_of h3 N4.dict (fun z => nomatch z))⟩
      have memI : ∀ r', r' ∈ ns' ++ [⟨s.name, x, lp, []⟩] → r' ∈ ns' ∨ r' = ⟨s.name, x, lp, []⟩ := fun r' m' => by
        rw [List.mem_append] at m'
        rcases m' with z | z
        · exact .inl z
        · exact .inr (by simpa using z)
      have ndsn : ∀ {β : Type} (f : NR → β), (ns'.map f).Nodup → (∀ r ∈ ns', f r ≠ f (NR.mk s.name x lp [])) → ((ns' ++ [NR.mk s.name x lp []]).map f).Nodup := fun f h1 h2 => by
        rw [List.map_append, List.nodup_append]
        refine ⟨h1, by simp, fun a ha b hb z => ?_⟩
        obtain ⟨r, mr, er⟩ := List.mem_map.mp ha
        have eb : b = f ⟨s.name, x, lp, []⟩ := by simpa using hb
        exact h2 r mr (by rw [er, z, eb])
      refine rest (ns' ++ [⟨s.name, x, lp, []⟩]) H5 ⟨Up.exF hfp N4.ex u5, ?_, ndsn _ N4.nd hno, fun r' m' => ?_, fun r' m' => ?_, fun r' m' => ?_, fun r' m' pp mp => ?_, ndsn _ N4.ndl fun r mr z => ?_, ndsn _ N4.nda fun r mr z => ?_, fun r' m' => ?_, fun r' m' => ?_⟩ ⟨⟨s.name, x, lp, []⟩, by simp, rfl⟩ fun v ns2 H6 h61 h62 M6 => ?_
      · rw [d5]
        unfold nkv
        rw [List.map_append]
        rfl
      · rcases memI r' m' with z | z
        · exact N4.pr r' z
        · subst z
          have hz : G2.filter (fun x => x.1 == s.name) = [] := by
            rw [List.filter_eq_nil_iff]
            intro g hg z
            have hz : g.1 = s.name := by simpa using z
            have h1 : s.name ∈ Sn17.once (G2.map (·.1)) := (Mx.once_mem _ _).mpr (List.mem_map.mpr ⟨g, hg, hz⟩)
            rw [← hk'] at h1
            obtain ⟨r, mr, er⟩ := List.mem_map.mp h1
            exact hno r mr er
          show [] = _
          rw [hz]
          rfl
      · rcases memI r' m' with z | z
        · obtain ⟨dn, hn⟩ := N4.nm r' z
          exact ⟨dn, u5 _ _ hn (ne_of hn N4.dict (fun z => nomatch z))⟩
        · subst z
          have h4 := e4 _ _ h3
          exact ⟨dx, u5 _ _ h4 (ne_of h4 N4.dict (fun z => nomatch z))⟩
      · rcases memI r' m' with z | z
        · have h4 := N4.lst r' z
          exact u5 _ _ h4 (ne_of h4 N4.dict (fun z => nomatch z))
        · subst z
          have h4 := e4 _ _ hl3
          exact u5 _ _ h4 (ne_of h4 N4.dict (fun z => nomatch z))
      · rcases memI r' m' with z | z
        · exact ⟨keepP (N4.at_ r' z pp mp).1, (N4.at_ r' z pp mp).2⟩
        · subst z
          exact nomatch mp
      · have z2 := N2.lst r mr
        rw [show r.lp = lp from z, nlp] at z2
        cases z2
      · obtain ⟨dn, z2⟩ := N2.nm r mr
        rw [show r.a = x from z, nx] at z2
        cases z2
      · rcases memI r' m' with z | z
        · exact N4.fa r' z
        · subst z
          exact fresh_back N2.ex nx
      · rcases memI r' m' with z | z
        · exact N4.fl r' z
        · subst z
          exact fresh_back N2.ex nlp
      · refine ⟨some (.ref y), some v, ns2, rfl, M6, ?_, ?_⟩
        · rw [h61, List.map_append, hk', hgm, Mx.once_snoc, if_neg]
          · rfl
          · intro z
            have z' : s.name ∈ Sn17.once (G2.map (·.1)) := by simpa using z
            rw [← hk'] at z'
            obtain ⟨r, mr, er⟩ := List.mem_map.mp z'
            exact hno r mr er
        · rw [h62, List.length_append, List.length_append]
          show ns'.length + 1 ≤ G2.length + 1
          omega
    · have hyes : ∃ r ∈ ns', r.n = s.name := by
        cases hv : ns'.find? (fun r => decide (r.n = s.name)) with
        | none =>
          rw [nkv_val, hv] at c2
          cases c2
        | some r => exact ⟨r, List.mem_of_find?_eq_some hv, by simpa using List.find?_some hv⟩
      refine rest ns' H2 (N1.mono ee2) hyes fun v ns2 H6 h61 h62 M6 => ?_
      refine ⟨some (.ref y), some v, ns2, rfl, M6, ?_, ?_⟩
      · rw [h61, hk', hgm, Mx.once_snoc, if_pos]
        obtain ⟨r, mr, er⟩ := hyes
        have z' : s.name ∈ Sn17.once (G2.map (·.1)) := by
          rw [← hk']
          exact List.mem_map.mpr ⟨r, mr, er⟩
        simpa using z'
      · rw [h62, List.length_append]
        omega
end
end Lk

set_option Elab.async false
set_option linter.all false
set_option maxRecDepth 100000
set_option maxHeartbeats 4000000
/-! # The layout: sizes and beginnings of the classes -/
namespace Lk
open PySem PySem.Spec PyProof.Rows L2 Evl He
def lyF (base : Nat) (sp bp : Addr) : List (Str × V) := [("address", nv base), ("sizes", .ref sp), ("begins", .ref bp)]
def LyAt (K : PySem.W.Frag) (H : Hp) (a : Addr) (base : Nat) (sp bp : Addr) : Prop := ∃ dx, H a = some (.ins (C_Layout K) dx (lyF base sp bp))
def begs (base : Nat) (sz : List Nat) : Nat → Nat
  | 0 => base
  | k + 1 => Sn17.up (begs base sz k + sz.getD k 0) 4096
section
variable {P : Program} {w : World} {K : PySem.W.Frag} {mg : Str → Option Value} {base : Heap}
theorem LyAt.mono {H H' : Hp} {a sp bp : Addr} {base : Nat} (h : LyAt K H a base sp bp) (e : Ex H H') : LyAt K H' a base sp bp := by
  obtain ⟨dx, h⟩ := h
  exact ⟨dx, e _ _ h⟩
theorem fl_Layout_address (T : Tx K mg) {H : Hp} {a : Addr} {base : Nat} {sp bp : Addr} (h : LyAt K H a base sp bp) : Fl K H a "address" (nv base) := by
  obtain ⟨dx, h⟩ := h
  exact ⟨_, dx, _, h, T.c_Layout, T.n_Layout_address, lk_at (ks := ["address", "sizes", "begins"]) (i := 0) rfl (by decide +kernel) rfl⟩
theorem fl_Layout_sizes (T : Tx K mg) {H : Hp} {a : Addr} {base : Nat} {sp bp : Addr} (h : LyAt K H a base sp bp) : Fl K H a "sizes" (.ref sp) := by
  obtain ⟨dx, h⟩ := h
  exact ⟨_, dx, _, h, T.c_Layout, T.n_Layout_sizes, lk_at (ks := ["address", "sizes", "begins"]) (i := 1) rfl (by decide +kernel) rfl⟩
theorem fl_Layout_begins (T : Tx K mg) {H : Hp} {a : Addr} {base : Nat} {sp bp : Addr} (h : LyAt K H a base sp bp) : Fl K H a "begins" (.ref bp) := by
  obtain ⟨dx, h⟩ := h
  exact ⟨_, dx, _, h, T.c_Layout, T.n_Layout_begins, lk_at (ks := ["address", "sizes", "begins"]) (i := 2) rfl (by decide +kernel) rfl⟩
theorem hm_Layout_put {H : Hp} {a : Addr} {base : Nat} {sp bp : Addr} (h : LyAt K H a base sp bp) : HasM H a (C_Layout K) "put" := by
  obtain ⟨dx, h⟩ := h
  exact ⟨dx, _, h, lk_no (ks := ["address", "sizes", "begins"]) rfl (by decide +kernel)⟩
theorem hm_Layout_settle {H : Hp} {a : Addr} {base : Nat} {sp bp : Addr} (h : LyAt K H a base sp bp) : HasM H a (C_Layout K) "settle" := by
  obtain ⟨dx, h⟩ := h
  exact ⟨dx, _, h, lk_no (ks := ["address", "sizes", "begins"]) rfl (by decide +kernel)⟩
theorem hm_Layout_file_size {H : Hp} {a : Addr} {base : Nat} {sp bp : Addr} (h : LyAt K H a base sp bp) : HasM H a (C_Layout K) "file_size" := by
  obtain ⟨dx, h⟩ := h
  exact ⟨dx, _, h, lk_no (ks := ["address", "sizes", "begins"]) rfl (by decide +kernel)⟩
theorem el_rep {σ : L2.St} {H : Hp} {ta tb : TE} {xs : List V} {k : Nat} (ha : EvL ta σ H xs) (hb : ∀ H1, Ex H H1 → Ev tb σ H1 (nv k)) (hz : xs.length * k ≤ 16777216) (hk : k < 2 ^ 63) : EvL (tOp rRep ta tb) σ H (List.replicate k xs).flatten := fun H1 e Q q =>
  ha H1 e _ fun p H2 hp e2 h2 => hb H2 (e.trans e2) H2 (Ex.refl _) _ fun H3 e3 => ⟨p, (k : Int), xs, rfl, rfl, e3 _ _ h2, by omega, by omega, by rw [Int.toNat_natCast, sizeLine_eq]; exact hz, fun r hr => by
    rw [Int.toNat_natCast]
    exact q r _ (fresh_back (e2.trans e3) hr) ((e2.trans e3).trans (Ex.new hr)) upd_same⟩
def spUp : Sp := fun vs H Q _ => ∃ n a : Nat, vs = [nv n, nv a] ∧ 1 ≤ a ∧ a ≤ 4096 ∧ RetV (nv (Sn17.up n a)) H Q
theorem ok_raised (T : Tx K mg) : Cal P w K mg base 1 "raised" (spUp) := by
  obtain ⟨fd, F⟩ := T.d_raised
  refine cal_of F T.g_raised sc_raised (fun vs H Q E h => ?_) (fun _ _ _ _ _ _ us hl => match us, hl with | [_, _], _ => rfl) (fun cdv A outer s H vs Q E hr h => ⟨_, (pss_one (ps_ret (pe_op op_mul (pe_op op_fdiv (pe_op op_sub (pe_op op_add (pv 0) (pv 1)) pe_int) (pv 1)) (pv 1)))), ?_⟩)
  · obtain ⟨n, a, rfl, _⟩ := h
    rfl
  · obtain ⟨n, a, rfl, h1, h2, q⟩ := h
    exact s_ret (ev_mulN (ev_fdivN (ev_subN (ev_addN (ev_var rfl) (ev_var rfl)) (ev_kN 1) (by omega)) (ev_var rfl) (by omega) (by omega)) (ev_var rfl) (.inr (by omega))) fun H1 e => q H1 e
theorem ev_up {E : XK} {H : Hp} {σ : L2.St} {ta tb : TE} {n a : Nat} (ha : Ev ta σ H (nv n)) (hb : Ev tb σ H (nv a)) (h1 : 1 ≤ a) (h2 : a ≤ 4096) : Ev (tCall spUp [] E (tCons ta (tCons tb tNil))) σ H (nv (Sn17.up n a)) :=
  ev_cal (ea_cons ha (ea_cons hb ea_nil)) fun H1 e Q q E => ⟨n, a, rfl, h1, h2, q⟩
def spLyInit (K : PySem.W.Frag) : Sp := fun vs H Q _ => ∃ (p dx : Addr) (b : Nat), vs = [.ref p, nv b] ∧ H p = some (.ins (C_Layout K) dx []) ∧
  ∀ (sp bp : Addr) (H' : Hp), H sp = none → H bp = none → sp ≠ bp → H' p = some (.ins (C_Layout K) dx (lyF b sp bp)) → H' sp = some (.lst (iv [0, 0, 0, 0])) → H' bp = some (.lst (iv [b, b, b, b])) → Up p H H' → Q .non H'
theorem ok_Layout_init (T : Tx K mg) : Mak P w K mg base 1 "Layout" (C_Layout K) (spLyInit K) := by
  obtain ⟨fd, F⟩ := T.d_Layout_init
  refine mak_of F T.k_Layout T.g_Layout sc_Layout_init (fun vs H Q E h => ?_) (fun _ _ _ _ _ _ us hl => match us, hl with | [_, _], _ => rfl) (fun cdv A outer s H vs Q E hr h => ⟨_, (pss_cons (ps_fldK (K := K) (pv 0) (pv 1))
      (pss_cons (ps_fldK (K := K) (pv 0) (pe_lst (pa_cons pe_int (pa_cons pe_int (pa_cons pe_int (pa_cons pe_int pa_nil))))))
      (pss_one (ps_fldK (K := K) (pv 0) (pe_op op_rep (pe_lst (pa_cons (pv 1) pa_nil)) pe_int))))), ?_⟩)
  · obtain ⟨p, dx, b, rfl, _⟩ := h
    rfl
  · obtain ⟨p, dx, b, rfl, hp, q⟩ := h
    refine q_fld (v := nv b) (ev_var rfl) (ev_var rfl) hp T.c_Layout T.n_Layout_address (by decide) fun H1 e1 => ?_
    generalize hH1 : upd H1 p (.ins (C_Layout K) dx (putF "address" (nv b) [])) = H1'
    have p1 : H1' p = some (.ins (C_Layout K) dx (putF "address" (nv b) [])) := by rw [← hH1]; exact upd_same
    have u1 : Up p H H1' := by rw [← hH1]; exact (Up.ex e1).upd
    refine q_fldR (EvL.r (el_lst (vs := iv [0, 0, 0, 0]) (ea_cons (ev_kN 0) (ea_cons (ev_kN 0) (ea_cons (ev_kN 0) (ea_cons (ev_kN 0) ea_nil)))) (by decide))) (ev_var rfl) p1 T.c_Layout T.n_Layout_sizes (by show 1 < 1000; decide) fun v H2 H3 e2 e3 hv => ?_
    obtain ⟨sp, rfl, nsp, hsp⟩ := hv
    have nsp' : sp ≠ p := fun z => by rw [z, p1] at nsp; cases nsp
    generalize hH3 : upd H3 p (.ins (C_Layout K) dx (putF "sizes" (.ref sp) (putF "address" (nv b) []))) = H3'
    have p3 : H3' p = some (.ins (C_Layout K) dx (putF "sizes" (.ref sp) (putF "address" (nv b) []))) := by rw [← hH3]; exact upd_same
    have u3 : Up p H1' H3' := by rw [← hH3]; exact (Up.ex (e2.trans e3)).upd
    have s3 : H3' sp = some (.lst (iv [0, 0, 0, 0])) := by rw [← hH3, upd_ne nsp']; exact e3 _ _ hsp
    refine s_fldR (EvL.r (el_rep (xs := [nv b]) (k := 4) (el_lst (ea_cons (ev_var rfl) ea_nil) (show 1 ≤ 100000 by decide)) (fun _ _ => ev_kN 4) (show 1 * 4 ≤ 16777216 by decide) (by decide))) (ev_var rfl) p3 T.c_Layout T.n_Layout_begins (by show 2 < 1000; decide) fun v H4 H5 e4 e5 hv => ?_
    obtain ⟨bp, rfl, nbp, hbp⟩ := hv
    have nbp' : bp ≠ p := fun z => by rw [z, p3] at nbp; cases nbp
    have nbs : sp ≠ bp := fun z => by rw [← z, s3] at nbp; cases nbp
    have fb : ∀ {c : Addr} {G G' : Hp}, c ≠ p → Up p G G' → G' c = none → G c = none := fun {c G G'} n u h => by
      cases qq : G c with
      | none => rfl
      | some o =>
        rw [u _ _ qq n] at h
        cases h
    refine q sp bp _ (fb nsp' u1 nsp) (fb nbp' u1 (fb nbp' u3 nbp)) nbs ?_ ?_ ?_ (((u1.trans u3).trans (Up.ex (e4.trans e5))).upd)
    · rw [upd_same]
      rfl
    · rw [upd_ne nsp']
      exact e5 _ _ (e4 _ _ s3)
    · rw [upd_ne nbp']
      exact e5 _ _ hbp
def spLyPut (K : PySem.W.Frag) : Sp := fun vs H Q _ => ∃ (a sp bp : Addr) (b c n al m : Nat) (sz : List Nat), vs = [.ref a, nv c, nv n, nv al] ∧ LyAt K H a b sp bp ∧ H sp = some (.lst (iv sz)) ∧ sz[c]? = some m ∧ 1 ≤ al ∧ al ≤ 4096 ∧
  ∀ H', H' sp = some (.lst (iv (sz.set c (Sn17.up m al + n)))) → Up sp H H' → Q (nv (Sn17.up m al)) H'
theorem iv_set (l : List Nat) (i n : Nat) : (iv l).set i (nv n) = iv (l.set i n) := by
  unfold iv
  rw [List.map_set]
theorem ok_Layout_put (T : Tx K mg) : Met P w K mg base 2 (C_Layout K) "put" (spLyPut K) := by
  obtain ⟨fd, F⟩ := T.d_Layout_put
  refine met_of F T.c_Layout T.m_Layout_put sc_Layout_put (fun vs H Q E h => ?_) (fun _ _ _ _ _ _ us hl => match us, hl with | [_, _, _, _], _ => rfl) (fun cdv A outer s H vs Q E hr h => ⟨_, (pss_cons (ps_set (i := 4) sc_Layout_put.nd rfl (Or.inl rfl) (pe_cal (ok_raised T) (hr.mono (by decide)) passL (pa_cons (pe_ix (ix_listK (K := K)) (pe_fldK (K := K) (pv 0)) (pv 1) (fun _ _ => rfl)) (pa_cons (pv 3) pa_nil))))
      (pss_cons (ps_asg (pe_op op_add (pv 4) (pv 2)) (pg_sub (pe_fldK (K := K) (pv 0)) (pv 1) set_list))
      (pss_one (ps_ret (pv 4))))), ?_⟩)
  · obtain ⟨a, sp, bp, b, c, n, al, m, sz, rfl, _⟩ := h
    rfl
  · obtain ⟨a, sp, bp, b, c, n, al, m, sz, rfl, hL, hs, hc, h1, h2, q⟩ := h
    refine q_asg (ev_up (ev_ixN (ev_fl (ev_var rfl) (fl_Layout_sizes T hL)) (SqL.of hs) (ev_var rfl) hc) (ev_var rfl) h1 h2) fun H1 e1 => ?_
    refine q_setL (l := sp) (e1 _ _ hs) (ev_addN (ev_var rfl) (ev_var rfl)) (ev_fl (ev_var rfl) (fl_Layout_sizes T (hL.mono e1))) (ev_var rfl) (by rw [iv_len]; exact (List.getElem?_eq_some_iff.mp hc).1) fun H2 e2 => ?_
    refine s_ret (ev_var rfl) fun H3 e3 => q H3 (e3 _ _ ?_) (((Up.ex (e1.trans e2)).upd).trans (Up.ex e3))
    rw [upd_same, ← iv_set]
def spLySettle (K : PySem.W.Frag) : Sp := fun vs H Q _ => ∃ (a sp bp : Addr) (b s0 s1 s2 s3 : Nat), vs = [.ref a] ∧ LyAt K H a b sp bp ∧ H sp = some (.lst (iv [s0, s1, s2, s3])) ∧ H bp = some (.lst (iv [b, b, b, b])) ∧ sp ≠ bp ∧
  ∀ H', H' bp = some (.lst (iv ((List.range 4).map (begs b [s0, s1, s2, s3])))) → Up bp H H' → Q .non H'
theorem ok_Layout_settle (T : Tx K mg) : Met P w K mg base 2 (C_Layout K) "settle" (spLySettle K) := by
  obtain ⟨fd, F⟩ := T.d_Layout_settle
  refine met_of F T.c_Layout T.m_Layout_settle sc_Layout_settle (fun vs H Q E h => ?_) (fun _ _ _ _ _ _ us hl => match us, hl with | [_], _ => rfl) (fun cdv A outer s H vs Q E hr h => ⟨_, (pss_one (ps_for (passes_of rfl) rfl (pi_range2 (by rfl) T.b_range (pa_cons pe_int (pa_cons pe_int pa_nil))) (pg_name (i := 1) sc_Layout_settle.nd rfl (Or.inl rfl)) (pss_one (ps_asg (pe_cal (ok_raised T) (hr.mono (by decide)) passL (pa_cons (pe_op op_add (pe_ix (ix_listK (K := K)) (pe_fldK (K := K) (pv 0)) (pe_op op_sub (pv 1) pe_int) (fun _ _ => rfl)) (pe_ix (ix_listK (K := K)) (pe_fldK (K := K) (pv 0)) (pe_op op_sub (pv 1) pe_int) (fun _ _ => rfl))) (pa_cons (pe_gi T.v_PAGE) pa_nil))) (pg_sub (pe_fldK (K := K) (pv 0)) (pv 1) set_list))))), ?_⟩)
  · obtain ⟨a, sp, bp, b, s0, s1, s2, s3, rfl, _⟩ := h
    rfl
  · obtain ⟨a, sp, bp, b, s0, s1, s2, s3, rfl, hL, hs, hb, hne, q⟩ := h
    refine s_forR2 (lo := 1) (n := 4) (ea_cons ev_c (ea_cons ev_c ea_nil)) ⟨by decide, by decide, by decide, by decide⟩ (fun i σ' H' => ∃ v : Option V, σ' = [some (.ref a), v] ∧ H' bp = some (.lst (iv ((List.range 4).map fun j => if j ≤ i then begs b [s0, s1, s2, s3] j else b))) ∧ Up bp H H')
      (fun H1 e1 => ⟨none, rfl, e1 _ _ hb, Up.ex e1⟩) ?_ ?_
    · rintro i σ' H' hi ⟨v, rfl, hb', u⟩
      have hi' : i < 3 := by omega
      obtain ⟨dx, hLx⟩ := hL
      have hL' : LyAt K H' a b sp bp := ⟨dx, u _ _ hLx (ne_of hLx hb (fun z => nomatch z))⟩
      have hs' := u _ _ hs hne
      have key : ∀ (x y : Nat), (List.map (fun j => if j ≤ i then begs b [s0, s1, s2, s3] j else b) (List.range 4))[i]? = some x → [s0, s1, s2, s3][i]? = some y → begs b [s0, s1, s2, s3] (i + 1) = Sn17.up (x + y) 4096 → ((List.map (fun j => if j ≤ i then begs b [s0, s1, s2, s3] j else b) (List.range 4)).set (i + 1) (Sn17.up (x + y) 4096) = List.map (fun j => if j ≤ i + 1 then begs b [s0, s1, s2, s3] j else b) (List.range 4)) →
          tAsg (tCall spUp [] E0 (tCons (tOp (rI0 fun i j => .int (i + j)) (tOp (rIxL K) (tFld K (tVar 0) "begins") (tOp (rI0 fun i j => .int (i - j)) (tVar 1) (tC (.int 1)))) (tOp (rIxL K) (tFld K (tVar 0) "sizes") (tOp (rI0 fun i j => .int (i - j)) (tVar 1) (tC (.int 1))))) (tCons (tC (.int 4096)) tNil))) (gSub (tFld K (tVar 0) "begins") (tVar 1) rSetL)
            { nx := fun σ' H' => ∃ v : Option V, σ' = [some (.ref a), v] ∧ H' bp = some (.lst (iv ((List.range 4).map fun j => if j ≤ i + 1 then begs b [s0, s1, s2, s3] j else b))) ∧ Up bp H H', rt := Q, bk := fun _ H' => Q .non H', ct := fun σ' H' => ∃ v : Option V, σ' = [some (.ref a), v] ∧ H' bp = some (.lst (iv ((List.range 4).map fun j => if j ≤ i + 1 then begs b [s0, s1, s2, s3] j else b))) ∧ Up bp H H' } [some (.ref a), some (nv (1 + i))] H' := by
        intro x y hx hy hxy hset
        have ei : Ev (tOp (rI0 fun i j => .int (i - j)) (tVar 1) (tC (.int 1))) [some (.ref a), some (nv (1 + i))] H' (nv i) := ev_is (ev_subN (ev_var rfl) (ev_kN 1) (by omega)) (by rw [Nat.add_sub_cancel_left])
        refine s_setL (l := bp) (j := 1 + i) hb' (ev_up (ev_addN (ev_ixN (ev_fl (ev_var rfl) (fl_Layout_begins T hL')) (SqL.of hb') ei hx) (ev_ixN (ev_fl (ev_var rfl) (fl_Layout_sizes T hL')) (SqL.of hs') ei hy)) (ev_kN 4096) (by decide) (by decide)) (ev_fl (ev_var rfl) (fl_Layout_begins T hL')) (ev_var rfl) (by rw [iv_len, List.length_map, List.length_range]; omega) fun H1 e1 => ⟨some (nv (1 + i)), rfl, ?_, (u.trans (Up.ex e1)).upd⟩
        rw [upd_same, iv_set, Nat.add_comm 1 i, hset]
      have hcase : i = 0 ∨ i = 1 ∨ i = 2 := by omega
      rcases hcase with h | h | h <;> subst h
      · exact key b s0 rfl rfl rfl rfl
      · exact key (begs b [s0, s1, s2, s3] 1) s1 rfl rfl rfl rfl
      · exact key (begs b [s0, s1, s2, s3] 2) s2 rfl rfl rfl rfl
    · rintro σ' H' ⟨v, rfl, hb', u⟩
      exact q H' hb' u
def spLySize (K : PySem.W.Frag) : Sp := fun vs H Q _ => ∃ (a sp bp : Addr) (b s0 s1 s2 s3 : Nat), vs = [.ref a] ∧ LyAt K H a b sp bp ∧ H sp = some (.lst (iv [s0, s1, s2, s3])) ∧ RetV (nv (4096 + ([s0, s1, s2].map fun n => Sn17.up n 4096).sum)) H Q
theorem ok_Layout_file_size (T : Tx K mg) : Met P w K mg base 2 (C_Layout K) "file_size" (spLySize K) := by
  obtain ⟨fd, F⟩ := T.d_Layout_file_size
  refine met_of F T.c_Layout T.m_Layout_file_size sc_Layout_file_size (fun vs H Q E h => ?_) (fun _ _ _ _ _ _ us hl => match us, hl with | [_], _ => rfl) (fun cdv A outer s H vs Q E hr h => ⟨_, (pss_one (ps_ret (pe_op op_add (pe_gi T.v_PAGE) (pe_callB (cr_sumK (K := K) rfl) (by rfl) T.b_sum (by decide +kernel) (pa_cons (pe_lc (own := [("number", 1)]) (g := gName 1) rfl sc_Layout_file_size.nd (pi_range1 (by rfl) T.b_range (pa_cons pe_int pa_nil)) (blkOk_by (own := [("number", 1)]) (N := ["self", "number"]) (sc := defScope s_Layout_file_size) (by decide +kernel)) (fun _ _ _ _ _ => pg_name (i := 1) sc_Layout_file_size.nd rfl (Or.inl rfl)) (fun _ _ _ _ _ => pts_nil) (fun _ _ _ _ _ => (pe_cal (ok_raised T) (hr.mono (by decide)) passL (pa_cons (pe_ix (ix_listK (K := K)) (pe_fldK (K := K) (pv 0)) (pv 1) (fun _ _ => rfl)) (pa_cons (pe_gi T.v_PAGE) pa_nil))))) pa_nil))))), ?_⟩)
  · obtain ⟨a, sp, bp, b, s0, s1, s2, s3, rfl, _⟩ := h
    rfl
  · obtain ⟨a, sp, bp, b, s0, s1, s2, s3, rfl, hL, hs, q⟩ := h
    refine s_ret (ev_addN (ev_kN 4096) (ev_sumN (fun n => Sn17.up n 4096) [s0, s1, s2] (el_lcR1 (n := 3) (fun _ => true) (fun i => nv (Sn17.up ([s0, s1, s2, s3].getD i 0) 4096)) (ea_cons ev_c ea_nil) ⟨by decide, by decide⟩ (fun _ => rfl) (fun _ _ _ _ => et_yes) (fun i H1 e1 hi _ => ev_up (ev_ixN (ev_fl (ev_var rfl) (fl_Layout_sizes T (hL.mono e1))) (SqL.of (e1 _ _ hs)) (ev_var rfl) ?_) (ev_kN 4096) (by decide) (by decide))))) fun H1 e => q H1 e
    have hcase : i = 0 ∨ i = 1 ∨ i = 2 := by omega
    rcases hcase with h | h | h <;> subst h <;> rfl
end
end Lk

/-! # Plain law: placement -/
namespace Mx
open Sn17
abbrev Keyed := (Nat × Nat) × Sec
theorem layClass_nil (c : Nat) : layClass c [] = ([], 0) := rfl
theorem layClass_snoc (c : Nat) (l : List Keyed) (y : Keyed) : layClass c (l ++ [y]) = if y.2.loads = true ∧ classOf y.2 = c then ((layClass c l).1 ++ [(y.1, up (layClass c l).2 y.2.align)], up (layClass c l).2 y.2.align + y.2.size) else layClass c l := by
  unfold layClass
  rw [List.foldl_append]
  rfl
theorem layClass_filter (c : Nat) (l : List Keyed) : layClass c (l.filter fun y => y.2.loads) = layClass c l := by
  have go : ∀ (l : List Keyed) (x : Lay × Nat), (l.filter fun y => y.2.loads).foldl (fun (x : Lay × Nat) y => if y.2.loads = true ∧ classOf y.2 = c then (let p := up x.2 y.2.align; (x.1 ++ [(y.1, p)], p + y.2.size)) else x) x = l.foldl (fun (x : Lay × Nat) y => if y.2.loads = true ∧ classOf y.2 = c then (let p := up x.2 y.2.align; (x.1 ++ [(y.1, p)], p + y.2.size)) else x) x := by
    intro l
    induction l with
    | nil => intro x; rfl
    | cons y r ih =>
      intro x
      rw [List.filter_cons]
      by_cases h : y.2.loads = true
      · rw [if_pos h, List.foldl_cons, List.foldl_cons, ih]
      · rw [if_neg h, List.foldl_cons, ih, if_neg (fun z => h z.1)]
  exact go l _
theorem layClass_mono {c : Nat} {l : List Keyed} {y : Keyed} {x : (Nat × Nat) × Nat} (h : x ∈ (layClass c l).1) : x ∈ (layClass c (l ++ [y])).1 := by
  rw [layClass_snoc]
  split
  · exact List.mem_append_left _ h
  · exact h
/-- what is placed in a class -/
theorem layClass_keys (c : Nat) (l : List Keyed) : (layClass c l).1.map (·.1) = (l.filter fun y => y.2.loads && decide (classOf y.2 = c)).map (·.1) := by
  have go : ∀ (l : List Keyed) (x : Lay × Nat), (l.foldl (fun (x : Lay × Nat) y => if y.2.loads = true ∧ classOf y.2 = c then (let p := up x.2 y.2.align; (x.1 ++ [(y.1, p)], p + y.2.size)) else x) x).1.map (·.1) = x.1.map (·.1) ++ (l.filter fun y => y.2.loads && decide (classOf y.2 = c)).map (·.1) := by
    intro l
    induction l with
    | nil => intro x; simp
    | cons y r ih =>
      intro x
      rw [List.foldl_cons, ih, List.filter_cons]
      by_cases h : y.2.loads = true ∧ classOf y.2 = c
      · rw [if_pos h, if_pos (by rw [h.1, decide_eq_true h.2]; rfl)]
        simp
      · rw [if_neg h, if_neg (by
          intro z
          rw [Bool.and_eq_true] at z
          exact h ⟨z.1, of_decide_eq_true z.2⟩)]
  have z := go l ([], 0)
  exact z
theorem layCommon_append : ∀ (a b : List (Bytes × Meant)) (n : Nat), layCommon (a ++ b) n = ((layCommon a n).1 ++ (layCommon b (layCommon a n).2).1, (layCommon b (layCommon a n).2).2)
  | [], _, _ => rfl
  | (x, .common s l) :: r, b, n => by
    rw [List.cons_append]
    show ((x, up n l) :: (layCommon (r ++ b) (up n l + s)).1, (layCommon (r ++ b) (up n l + s)).2) = ((x, up n l) :: (layCommon r (up n l + s)).1 ++ _, _)
    rw [layCommon_append r b]
    rfl
  | (x, .sym _ _) :: r, b, n => layCommon_append r b n
  | (x, .nothing) :: r, b, n => layCommon_append r b n
def isCom : Meant → Bool
  | .common _ _ => true
  | _ => false
theorem layCommon_filter : ∀ (l : List (Bytes × Meant)) (n : Nat), layCommon (l.filter fun x => isCom x.2) n = layCommon l n
  | [], _ => rfl
  | (x, .common s a) :: r, n => by
    show ((x, up n a) :: (layCommon (r.filter fun x => isCom x.2) (up n a + s)).1, (layCommon (r.filter fun x => isCom x.2) (up n a + s)).2) = ((x, up n a) :: (layCommon r (up n a + s)).1, (layCommon r (up n a + s)).2)
    rw [layCommon_filter r]
  | (x, .sym _ _) :: r, n => layCommon_filter r n
  | (x, .nothing) :: r, n => layCommon_filter r n
theorem layCommon_keys : ∀ (l : List (Bytes × Meant)) (n : Nat), (layCommon l n).1.map (·.1) = (l.filter fun x => isCom x.2).map (·.1)
  | [], _ => rfl
  | (x, .common s a) :: r, n => by
    show x :: (layCommon r (up n a + s)).1.map (·.1) = x :: (r.filter fun x => isCom x.2).map (·.1)
    rw [layCommon_keys r]
  | (x, .sym _ _) :: r, n => layCommon_keys r n
  | (x, .nothing) :: r, n => layCommon_keys r n
theorem class_lt (s : Sec) : classOf s < 4 := by
  unfold classOf
  split
  · decide
  · split
    · decide
    · split <;> decide
end Mx

set_option Elab.async false
set_option linter.all false
set_option maxRecDepth 100000
set_option maxHeartbeats 4000000
/-! # Walks over the dict of names; what stands by its kind; sections with their keys -/
namespace Lk
open PySem PySem.Spec PyProof.Rows L2 Evl He
section
variable {K : PySem.W.Frag} {σ : L2.St} {H H' : Hp} {td te : TE} {t : TT} {D : Ends} {tu tz : TS} {α : Type} {L : List α} {kf : α → List Key} {vf g : α → V} {d : Addr} {o : Obj} {j : Nat} {vs : List Nat}
theorem kv_at {i : Nat} {k : List Key} {v : V} (h : (L.map fun x => (kf x, vf x))[i]? = some (k, v)) : ∃ x, L[i]? = some x ∧ k = kf x ∧ v = vf x := by
  rw [List.getElem?_map] at h
  cases e : L[i]? with
  | none =>
    rw [e] at h
    cases h
  | some x =>
    rw [e] at h
    have z := Option.some.inj h
    exact ⟨x, rfl, (congrArg (·.1) z).symm, (congrArg (·.2) z).symm⟩
/-- over the keys of a locked dict -/
theorem s_forKy (h : Ev td σ H (.ref d)) (hd : H d = some (.frz o (.dT (L.map fun x => (kf x, vf x))))) (Pv : List α → L2.St → Hp → Prop) (h0 : ∀ H1, Ex H H1 → Pv [] σ H1) (hl : ∀ pre σ' H', Pv pre σ' H' → H' d = some (.frz o (.dT (L.map fun x => (kf x, vf x)))))
    (hs : ∀ pre x post σ' H' q, L = pre ++ x :: post → Pv pre σ' H' → H' q = some (.tup ((kf x).map kV)) → tu { D with nx := Pv (pre ++ [x]), ct := Pv (pre ++ [x]), bk := D.nx } (σ'.set j (some (.ref q))) H') (hf : ∀ σ' H', Pv L σ' H' → D.nx σ' H') : tFor (iKeys td) (gName j) tu D σ H :=
  h H (Ex.refl H) _ fun H1 e => ⟨d, o, rfl, Or.inr ⟨_, e _ _ hd, fun i m σ H => m = L.length - i ∧ i ≤ L.length ∧ Pv (L.take i) σ H, ⟨L.length, by simp, Nat.zero_le _, h0 H1 e⟩, by
    rintro i m σ' H' ⟨rfl, hi, p⟩
    have q := hl _ σ' H' p
    by_cases hlt : i < L.length
    · refine .inr ⟨⟨q, by rw [List.length_map]; exact hlt⟩, Pv (L.take (i + 1)), fun σ2 H2 p2 => ⟨L.length - (i + 1), by omega, rfl, hlt, p2⟩, fun x H2 y => ?_⟩
      obtain ⟨rfl, k, v, qa, hk, rfl, hq⟩ := y
      obtain ⟨z, hz, rfl, rfl⟩ := kv_at hk
      obtain ⟨e1, e2⟩ := split_at hz
      have w := hs (L.take i) z (L.drop (i + 1)) σ' H2 qa e1 p hq
      rw [← e2] at w
      exact w
    · refine .inl ⟨⟨q, by rw [List.length_map]; omega⟩, hf σ' H' ?_⟩
      rw [List.take_of_length_le (by omega)] at p
      exact p⟩⟩
theorem el_lcKy {p : α → Bool} (h : Ev td σ H (.ref d)) (hd : H d = some (.frz o (.dT (L.map fun x => (kf x, vf x))))) (hz : L.length ≤ 16000000) (hw : ∀ x, wipe ((wipe σ vs).set j (some x)) vs = wipe σ vs)
    (ht : ∀ x ∈ L, ∀ H1 q, Ex H H1 → H1 q = some (.tup ((kf x).map kV)) → EvT t ((wipe σ vs).set j (some (.ref q))) H1 (p x)) (he : ∀ x ∈ L, ∀ H1 q, Ex H H1 → H1 q = some (.tup ((kf x).map kV)) → p x = true → Ev te ((wipe σ vs).set j (some (.ref q))) H1 (g x)) :
    EvL (tLc (iKeys td) (gName j) t te vs) σ H ((L.filter p).map g) := fun H0 e Q q => h H0 e _ fun H1 e1 => ⟨d, o, rfl, Or.inr ⟨_, (e.trans e1) _ _ hd, fun Dl hD =>
  ⟨fun i m H' => m = L.length - i ∧ i ≤ L.length ∧ H1 Dl = none ∧ Ex H1 H' ∧ H' Dl = some (.lst (((L.take i).filter p).map g)), ⟨L.length, by simp, Nat.zero_le _, hD, Ex.new hD, upd_same⟩, by
    rintro i m H' ⟨rfl, hi, z1, z2, z3⟩
    have hq := z2 _ _ ((e.trans e1) _ _ hd)
    by_cases hlt : i < L.length
    · refine .inr ⟨⟨hq, by rw [List.length_map]; exact hlt⟩, fun H' => H1 Dl = none ∧ Ex H1 H' ∧ H' Dl = some (.lst (((L.take (i + 1)).filter p).map g)), fun H2 p2 => ⟨L.length - (i + 1), by omega, rfl, hlt, p2⟩, fun x H2 y => ?_⟩
      obtain ⟨rfl, k, v, qa, hk, rfl, hqa⟩ := y
      obtain ⟨z, hzz, rfl, rfl⟩ := kv_at hk
      obtain ⟨e2, e3⟩ := split_at hzz
      have hm : z ∈ L := List.mem_of_getElem? hzz
      refine ⟨hw _, ?_⟩
      refine (ht z hm H2 qa ((e.trans e1).trans z2) hqa) H2 (Ex.refl _) _ fun H3 e4 => ?_
      rw [e3]
      have hsz : (((L.take i).filter p).map g).length < sizeLine := by
        have := List.length_filter_le p (L.take i)
        rw [List.length_take] at this
        rw [List.length_map, sizeLine_eq]
        omega
      cases hf : p z with
      | true =>
        refine (he z hm H2 qa ((e.trans e1).trans z2) hqa hf) H3 e4 _ fun H4 e5 => ⟨_, e5 _ _ (e4 _ _ z3), hsz, z1, Ex.mut ((z2.trans e4).trans e5) z1, ?_⟩
        rw [upd_same, List.filter_append, List.filter_cons, if_pos hf, List.map_append]
        rfl
      | false =>
        refine ⟨z1, z2.trans e4, ?_⟩
        rw [List.filter_append, List.filter_cons, if_neg (by rw [hf]; decide), List.filter_nil, List.append_nil]
        exact e4 _ _ z3
    · refine .inl ⟨⟨hq, by rw [List.length_map]; omega⟩, q Dl H' (fresh_back e1 z1) (e1.trans z2) ?_⟩
      rw [List.take_of_length_le (by omega)] at z3
      exact z3⟩⟩⟩
/-- a dict is locked, and free again -/
theorem ex_unlock {u : HO} (h : H d = some u) (e : Ex (upd H d (.frz o u)) H') : Ex H (upd H' d u) := fun b ob hb => by
  by_cases z : b = d
  · subst z
    rw [upd_same, ← hb, h]
  · rw [upd_ne z]
    exact e _ _ (by rw [upd_ne z]; exact hb)
theorem lock_of {u ob : HO} {b : Addr} (h : H d = some u) (hb : H b = some ob) (n : ob ≠ u) : (upd H d (.frz o u)) b = some ob := by
  rw [upd_ne (ne_of hb h n)]
  exact hb
theorem s_fldaug {ta tv : TE} {a C dx : Addr} {fs : List (Str × V)} {f : Str} {m n : Nat} (ho : Ev ta σ H (.ref a)) (hv : Ev tv σ H (nv n)) (h : H a = some (.ins C dx fs)) (c : Cls K C) (na : NoAttr K C f) (hl : fs.length < 1000) (hf : fs.lookup f = some (nv m))
    (k : ∀ H1, Ex H H1 → D.nx σ (upd H1 a (.ins C dx (putF f (nv (m + n)) fs)))) : sFldAug K ta tv rAdd f D σ H := ho H (Ex.refl H) _ fun H1 e1 =>
  ⟨a, C, dx, fs, _, rfl, e1 _ _ h, c, na, hf, hv H1 e1 _ fun H2 e2 => ⟨_, _, rfl, rfl, dx, fs, e2 _ _ (e1 _ _ h), hl, k H2 (e1.trans e2)⟩⟩
end
/-! ### what stands by its kind -/
def kd : HO → Nat
  | .ins _ _ fs => fs.length
  | _ => 0
/-- all but sections and names stands -/
def UpK (H H' : Hp) : Prop := ∀ b o, H b = some o → kd o ≠ 10 → kd o ≠ 6 → H' b = some o
section
variable {K : PySem.W.Frag} {H H' H2 : Hp} {a : Addr}
theorem UpK.refl (H : Hp) : UpK H H := fun _ _ h _ _ => h
theorem UpK.ex (e : Ex H H') : UpK H H' := fun b o h _ _ => e b o h
theorem UpK.trans (u : UpK H H') (v : UpK H' H2) : UpK H H2 := fun b o h k1 k2 => v b o (u b o h k1 k2) k1 k2
theorem UpK.put {o o2 : HO} (u : UpK H H') (h : H' a = some o) (k : kd o = 10 ∨ kd o = 6) : UpK H (upd H' a o2) := fun b ob hb k1 k2 => by
  have h1 := u b ob hb k1 k2
  by_cases z : b = a
  · subst z
    rw [h] at h1
    cases h1
    rcases k with k | k
    · exact absurd k k1
    · exact absurd k k2
  · rw [upd_ne z]
    exact h1
theorem UpK.up {p : Addr} (u : UpK H H') (n : H p = none) (v : Up p H' H2) : UpK H H2 := fun b o h k1 k2 => v b o (u b o h k1 k2) (ne_of_none h n)
theorem UpK.seq {xs : List V} (u : UpK H H') (h : SqL K H a xs) : SqL K H' a xs := by
  rcases h with (h | ⟨o, h⟩) | h
  · exact .inl (.inl (u _ _ h (show 0 ≠ 10 by decide) (show 0 ≠ 6 by decide)))
  · exact .inl (.inr ⟨o, u _ _ h (show 0 ≠ 10 by decide) (show 0 ≠ 6 by decide)⟩)
  · exact .inr h
theorem UpK.row {l : List Nat} (u : UpK H H') (h : Rw K H a l) : Rw K H' a l := ⟨u.seq h.sq, h.len, h.by_⟩
theorem UpK.sym {y : Sn17.Sym} (u : UpK H H') (h : SymAt K H a y) : SymAt K H' a y := by
  obtain ⟨dx, t, h1, h2⟩ := h
  exact ⟨dx, t, u _ _ h1 (show 5 ≠ 10 by decide) (show 5 ≠ 6 by decide), u _ _ h2 (show 0 ≠ 10 by decide) (show 0 ≠ 6 by decide)⟩
theorem UpK.pr {p : PR} (u : UpK H H') (h : PrAt K H p) : PrAt K H' p := ⟨u _ _ h.1 (show 0 ≠ 10 by decide) (show 0 ≠ 6 by decide), u.sym h.2⟩
theorem UpK.rel {zs : List (Addr × Sn17.Sec)} {z : Addr × Sn17.Rel} (u : UpK H H') (h : RelIn K H zs z) : RelIn K H' zs z := by
  obtain ⟨c, s, h1, dx, h2⟩ := h
  exact ⟨c, s, h1, dx, u _ _ h2 (show 5 ≠ 10 by decide) (show 5 ≠ 6 by decide)⟩
theorem UpK.lst {xs : List V} (u : UpK H H') (h : H a = some (.lst xs)) : H' a = some (.lst xs) := u _ _ h (show 0 ≠ 10 by decide) (show 0 ≠ 6 by decide)
theorem UpK.obj {d : OD} {pl pl' : Addr → Nat × Nat} (u : UpK H H') (h : ObjAt K H d pl) (hs : ∀ z ∈ d.zs, SecAt K H' z.1 z.2 (pl' z.1).1 (pl' z.1).2) : ObjAt K H' d pl' := by
  obtain ⟨dx, ht⟩ := h.told
  exact ⟨⟨dx, u _ _ ht (show 4 ≠ 10 by decide) (show 4 ≠ 6 by decide)⟩, u.row h.row, u.lst h.secs, u.lst h.syms, u.lst h.rels, hs, fun z m => u.sym (h.sym z m), fun z m => u.rel (h.rel z m)⟩
theorem mem_allZs {ds : List OD} {d : OD} {z : Addr × Sn17.Sec} (hd : d ∈ ds) (hz : z ∈ d.zs) : z ∈ allZs ds := List.mem_flatMap.mpr ⟨d, hd, hz⟩
theorem UpK.wd {ds : List OD} {pl pl' : Addr → Nat × Nat} (u : UpK H H') (h : Wd K H ds pl) (hs : ∀ z ∈ allZs ds, SecAt K H' z.1 z.2 (pl' z.1).1 (pl' z.1).2) : Wd K H' ds pl' :=
  ⟨fun d m => u.obj (h.obj d m) fun z mz => hs z (mem_allZs m mz), h.nd⟩
end
/-! ### sections with their keys -/
abbrev KZ := (Nat × Nat) × (Addr × Sn17.Sec)
def allK (ds : List OD) : List KZ := ds.zipIdx.flatMap fun d => d.1.zs.zipIdx.map fun z => ((d.2, z.2), z.1)
def kS (x : KZ) : Mx.Keyed := (x.1, x.2.2)
theorem zip_fst {α : Type} : ∀ (l : List α) (n : Nat), (l.zipIdx n).map (·.1) = l
  | [], _ => rfl
  | x :: r, n => by
    rw [List.zipIdx_cons, List.map_cons, zip_fst r]
theorem zip_map {α β : Type} (f : α → β) : ∀ (l : List α) (n : Nat), (l.map f).zipIdx n = (l.zipIdx n).map fun x => (f x.1, x.2)
  | [], _ => rfl
  | x :: r, n => by
    rw [List.map_cons, List.zipIdx_cons, List.zipIdx_cons, List.map_cons, zip_map f r]
theorem allK_zs (ds : List OD) : (allK ds).map (·.2) = allZs ds := by
  have go : ∀ (l : List OD) (n : Nat), ((l.zipIdx n).flatMap fun d => d.1.zs.zipIdx.map fun z => (((d.2, z.2), z.1) : KZ)).map (·.2) = l.flatMap fun d => d.zs := by
    intro l
    induction l with
    | nil => intro n; rfl
    | cons d r ih =>
      intro n
      rw [List.zipIdx_cons, List.flatMap_cons, List.flatMap_cons, List.map_append, ih, List.map_map]
      congr 1
      exact zip_fst d.zs 0
  exact go ds 0
theorem allK_secs (ds : List OD) : (allK ds).map kS = Sn17.allSecs (ds.map OD.obj) := by
  unfold Sn17.allSecs allK
  rw [zip_map]
  generalize ds.zipIdx = l
  induction l with
  | nil => rfl
  | cons d r ih =>
    rw [List.flatMap_cons, List.map_cons, List.flatMap_cons, List.map_append, ih, List.map_map]
    congr 1
    show _ = (d.1.zs.map (·.2)).zipIdx.map _
    rw [zip_map, List.map_map]
    rfl
theorem mem_zip {α : Type} {x : α} {i : Nat} : ∀ {l : List α} {n : Nat}, (x, i) ∈ l.zipIdx n → n ≤ i ∧ l[i - n]? = some x
  | [], _, h => nomatch h
  | y :: r, n, h => by
    rw [List.zipIdx_cons] at h
    rcases List.mem_cons.mp h with e | e
    · cases e
      exact ⟨Nat.le_refl _, by rw [Nat.sub_self]; rfl⟩
    · obtain ⟨h1, h2⟩ := mem_zip e
      refine ⟨by omega, ?_⟩
      rw [show i - n = (i - (n + 1)) + 1 by omega, List.getElem?_cons_succ]
      exact h2
theorem zip_mem {α : Type} {x : α} : ∀ {l : List α} {n i : Nat}, l[i]? = some x → (x, n + i) ∈ l.zipIdx n
  | [], _, _, h => nomatch h
  | y :: r, n, 0, h => by
    cases h
    rw [List.zipIdx_cons]
    exact List.mem_cons_self ..
  | y :: r, n, i + 1, h => by
    rw [List.zipIdx_cons]
    rw [List.getElem?_cons_succ] at h
    have z := zip_mem (n := n + 1) h
    rw [show n + (i + 1) = n + 1 + i by omega]
    exact List.mem_cons_of_mem _ z
theorem mem_allK {ds : List OD} {o k : Nat} {z : Addr × Sn17.Sec} : ((o, k), z) ∈ allK ds ↔ ∃ d, ds[o]? = some d ∧ d.zs[k]? = some z := by
  unfold allK
  constructor
  · intro h
    obtain ⟨⟨d, i⟩, h1, h2⟩ := List.mem_flatMap.mp h
    obtain ⟨⟨z', j⟩, h3, h4⟩ := List.mem_map.mp h2
    cases h4
    obtain ⟨_, h5⟩ := mem_zip h1
    obtain ⟨_, h6⟩ := mem_zip h3
    exact ⟨d, h5, h6⟩
  · rintro ⟨d, h1, h2⟩
    have z1 := zip_mem (n := 0) h1
    have z2 := zip_mem (n := 0) h2
    rw [Nat.zero_add] at z1 z2
    exact List.mem_flatMap.mpr ⟨(d, o), z1, List.mem_map.mpr ⟨(z, k), z2, rfl⟩⟩
end Lk

set_option Elab.async false
set_option linter.all false
set_option maxRecDepth 100000
set_option maxHeartbeats 4000000
/-! # All loaded sections and the commons are placed -/
namespace Lk
open PySem PySem.Spec PyProof.Rows L2 Evl He
def mnS (x : NR × PM) : List Nat × Sn17.Meant := (x.1.n, x.2.to PR.g)
theorem com_mn (x : NR × PM) : Mx.isCom (mnS x).2 = comB x.2 := by
  unfold mnS
  cases x.2 <;> rfl
def szs (S : List Mx.Keyed) (nm : List (List Nat × Sn17.Meant)) : List Nat := [(Sn17.layClass 0 S).2, (Sn17.layClass 1 S).2, (Sn17.layClass 2 S).2, (Sn17.layCommon nm (Sn17.layClass 3 S).2).2]
theorem range4_set (f g : Nat → Nat) {c : Nat} (hc : c < 4) (h : ∀ c', c' ≠ c → g c' = f c') : ((List.range 4).map f).set c (g c) = (List.range 4).map g := by
  have hcase : c = 0 ∨ c = 1 ∨ c = 2 ∨ c = 3 := by omega
  show [f 0, f 1, f 2, f 3].set c (g c) = [g 0, g 1, g 2, g 3]
  rcases hcase with e | e | e | e <;> subst e
  · rw [h 1 (by decide), h 2 (by decide), h 3 (by decide)]; rfl
  · rw [h 0 (by decide), h 2 (by decide), h 3 (by decide)]; rfl
  · rw [h 0 (by decide), h 1 (by decide), h 3 (by decide)]; rfl
  · rw [h 0 (by decide), h 1 (by decide), h 2 (by decide)]; rfl
theorem range4_at (f : Nat → Nat) {c : Nat} (hc : c < 4) : ((List.range 4).map f)[c]? = some (f c) := by
  rw [List.getElem?_map, List.getElem?_range hc]
  rfl
/-- what is made by and by -/
structure PC (K : PySem.W.Frag) (H H' : Hp) (la sp bp lp b : Nat) (ds : List OD) (nms : List (NR × PM)) (pl : Addr → Nat × Nat) (ad : Addr → Nat) (sz bg : List Nat) (ll : List V) : Prop where
  up : UpK H H'
  ly : LyAt K H' la b sp bp
  s : H' sp = some (.lst (iv sz))
  g : H' bp = some (.lst (iv bg))
  l : H' lp = some (.lst ll)
  sec : ∀ z ∈ allZs ds, SecAt K H' z.1 z.2 (pl z.1).1 (pl z.1).2
  nm : ∀ x ∈ nms, NmAt K H' x.1.a x.1.lp x.2 (ad x.1.a)
section
variable {K : PySem.W.Frag} {H H' H2 : Hp} {la sp bp lp b : Nat} {ds : List OD} {nms : List (NR × PM)} {pl : Addr → Nat × Nat} {ad : Addr → Nat} {sz bg : List Nat} {ll : List V}
theorem PC.mono (h : PC K H H' la sp bp lp b ds nms pl ad sz bg ll) (e : Ex H' H2) : PC K H H2 la sp bp lp b ds nms pl ad sz bg ll :=
  ⟨h.up.trans (UpK.ex e), h.ly.mono e, e _ _ h.s, e _ _ h.g, e _ _ h.l, fun z m => (h.sec z m).mono e, fun x m => (h.nm x m).mono e⟩
theorem Up.insL {p a C dx : Addr} {fs : List (Str × V)} {xs : List V} {H H' : Hp} (u : Up p H H') (hp : H p = some (.lst xs)) (h : H a = some (.ins C dx fs)) : H' a = some (.ins C dx fs) := u _ _ h (ne_of h hp (fun z => nomatch z))
theorem PC.setSz {sz' : List Nat} (h : PC K H H' la sp bp lp b ds nms pl ad sz bg ll) (n : H sp = none) (n1 : sp ≠ bp) (n2 : lp ≠ sp) (u : Up sp H' H2) (hs : H2 sp = some (.lst (iv sz'))) : PC K H H2 la sp bp lp b ds nms pl ad sz' bg ll :=
  ⟨h.up.up n u, h.ly.elim fun dx q => ⟨dx, u.insL h.s q⟩, hs, u _ _ h.g n1.symm, u _ _ h.l n2, fun z m => (h.sec z m).elim fun dx q => ⟨dx, u.insL h.s q⟩, fun x m => (h.nm x m).elim fun dx q => ⟨dx, u.insL h.s q⟩⟩
theorem PC.setBg {bg' : List Nat} (h : PC K H H' la sp bp lp b ds nms pl ad sz bg ll) (n : H bp = none) (n1 : sp ≠ bp) (n2 : lp ≠ bp) (u : Up bp H' H2) (hs : H2 bp = some (.lst (iv bg'))) : PC K H H2 la sp bp lp b ds nms pl ad sz bg' ll :=
  ⟨h.up.up n u, h.ly.elim fun dx q => ⟨dx, u.insL h.g q⟩, u _ _ h.s n1, hs, u _ _ h.l n2, fun z m => (h.sec z m).elim fun dx q => ⟨dx, u.insL h.g q⟩, fun x m => (h.nm x m).elim fun dx q => ⟨dx, u.insL h.g q⟩⟩
theorem PC.setL {ll' : List V} (h : PC K H H' la sp bp lp b ds nms pl ad sz bg ll) (n : H lp = none) (n1 : lp ≠ sp) (n2 : lp ≠ bp) (u : Up lp H' H2) (hs : H2 lp = some (.lst ll')) : PC K H H2 la sp bp lp b ds nms pl ad sz bg ll' :=
  ⟨h.up.up n u, h.ly.elim fun dx q => ⟨dx, u.insL h.l q⟩, u _ _ h.s n1.symm, u _ _ h.g n2.symm, hs, fun z m => (h.sec z m).elim fun dx q => ⟨dx, u.insL h.l q⟩, fun x m => (h.nm x m).elim fun dx q => ⟨dx, u.insL h.l q⟩⟩
theorem ins_ne {a c C D dx dy : Addr} {fs gs : List (Str × V)} (h : H a = some (.ins C dx fs)) (h2 : H c = some (.ins D dy gs)) (n : fs.length ≠ gs.length) : a ≠ c := ne_of h h2 fun z => n (congrArg (fun o => match o with | HO.ins _ _ fs => fs.length | _ => 0) z)
theorem PC.setSec {z : Addr × Sn17.Sec} {dx C : Addr} {x y q e : Nat} (h : PC K H H' la sp bp lp b ds nms pl ad sz bg ll) (nd : ((allZs ds).map (·.1)).Nodup) (hz : z ∈ allZs ds) (h0 : H' z.1 = some (.ins (C_Section K) dx (secF z.2 x y))) :
    PC K H (upd H' z.1 (.ins (C_Section K) dx (secF z.2 q e))) la sp bp lp b ds nms (fun a => if a = z.1 then (q, e) else pl a) ad sz bg ll := by
  have nl : ∀ {a : Addr} {xs : List V}, H' a = some (.lst xs) → a ≠ z.1 := fun ha => ne_of ha h0 (fun w => nomatch w)
  refine ⟨h.up.put h0 (.inl rfl), h.ly.elim fun dy k => ⟨dy, ?_⟩, ?_, ?_, ?_, fun w m => ?_, fun w m => (h.nm w m).elim fun dy k => ⟨dy, ?_⟩⟩
  · rw [upd_ne (ins_ne k h0 (show 3 ≠ 10 by decide))]
    exact k
  · rw [upd_ne (nl h.s)]
    exact h.s
  · rw [upd_ne (nl h.g)]
    exact h.g
  · rw [upd_ne (nl h.l)]
    exact h.l
  · by_cases k : w.1 = z.1
    · have kk := Mx.nodup_inj nd m hz k
      subst kk
      rw [if_pos rfl]
      exact ⟨dx, upd_same⟩
    · rw [if_neg k]
      obtain ⟨dy, k2⟩ := h.sec w m
      exact ⟨dy, by rw [upd_ne k]; exact k2⟩
  · rw [upd_ne (ins_ne k h0 (show 6 ≠ 10 by decide))]
    exact k
theorem PC.setNm {x : NR × PM} {dx : Addr} {y q : Nat} (h : PC K H H' la sp bp lp b ds nms pl ad sz bg ll) (nd : (nms.map (·.1.a)).Nodup) (hx : x ∈ nms) (h0 : H' x.1.a = some (.ins (C_Name K) dx (nmF x.1.lp x.2 y))) :
    PC K H (upd H' x.1.a (.ins (C_Name K) dx (nmF x.1.lp x.2 q))) la sp bp lp b ds nms pl (fun a => if a = x.1.a then q else ad a) sz bg ll := by
  have nl : ∀ {a : Addr} {xs : List V}, H' a = some (.lst xs) → a ≠ x.1.a := fun ha => ne_of ha h0 (fun w => nomatch w)
  refine ⟨h.up.put h0 (.inr rfl), h.ly.elim fun dy k => ⟨dy, ?_⟩, ?_, ?_, ?_, fun w m => (h.sec w m).elim fun dy k => ⟨dy, ?_⟩, fun w m => ?_⟩
  · rw [upd_ne (ins_ne k h0 (show 3 ≠ 6 by decide))]
    exact k
  · rw [upd_ne (nl h.s)]
    exact h.s
  · rw [upd_ne (nl h.g)]
    exact h.g
  · rw [upd_ne (nl h.l)]
    exact h.l
  · rw [upd_ne (ins_ne k h0 (show 10 ≠ 6 by decide))]
    exact k
  · by_cases k : w.1.a = x.1.a
    · have kk := Mx.nodup_inj (f := fun x : NR × PM => x.1.a) nd m hx k
      subst kk
      rw [if_pos rfl]
      exact ⟨dx, upd_same⟩
    · rw [if_neg k]
      obtain ⟨dy, k2⟩ := h.nm w m
      exact ⟨dy, by rw [upd_ne k]; exact k2⟩
/-- o.f = o2.m(..) -/
theorem e_fldM {E : XK} {sp : Sp} {σ : L2.St} {H : Hp} {ta to : TE} {at_ : TA} {vs : List V} {D : Ends} {f m : Str} {o C : Addr} (ho : Ev to σ H (.ref o)) (hm : HasM H o C m) (h : EvA at_ σ H vs) (k : ∀ H1, Ex H H1 → sp (.ref o :: vs) H1 (fun y H2 => ta σ H2 fun x H3 => ∃ a C dx fs, x = .ref a ∧ H3 a = some (.ins C dx fs) ∧ Cls K C ∧ NoAttr K C f ∧ fs.length < 1000 ∧ D.nx σ (upd H3 a (.ins C dx (putF f y fs)))) E) :
    sFld K ta (tMeth C m sp [] E to at_) f D σ H := ho H (Ex.refl H) _ fun H1 e1 => by
  obtain ⟨dx, fs, h1, h2⟩ := hm
  refine ⟨o, dx, fs, rfl, e1 _ _ h1, h2, h H1 e1 _ fun H2 e2 => ?_⟩
  rw [List.append_nil]
  exact k H2 (e1.trans e2)
/-- o.m(..) -/
theorem q_dropM {E : XK} {sp : Sp} {σ : L2.St} {H : Hp} {to : TE} {at_ : TA} {vs : List V} {D : Ends} {tz : TS} {m : Str} {o C : Addr} (ho : Ev to σ H (.ref o)) (hm : HasM H o C m) (h : EvA at_ σ H vs) (k : ∀ H1, Ex H H1 → sp (.ref o :: vs) H1 (fun _ H2 => tz D σ H2) E) :
    tSeq (tDrop (tMeth C m sp [] E to at_)) tz D σ H := ho H (Ex.refl H) _ fun H1 e1 => by
  obtain ⟨dx, fs, h1, h2⟩ := hm
  refine ⟨o, dx, fs, rfl, e1 _ _ h1, h2, h H1 e1 _ fun H2 e2 => ?_⟩
  rw [List.append_nil]
  exact k H2 (e1.trans e2)
theorem e_dropM {E : XK} {sp : Sp} {σ : L2.St} {H : Hp} {to : TE} {at_ : TA} {vs : List V} {D : Ends} {m : Str} {o C : Addr} (ho : Ev to σ H (.ref o)) (hm : HasM H o C m) (h : EvA at_ σ H vs) (k : ∀ H1, Ex H H1 → sp (.ref o :: vs) H1 (fun _ H2 => D.nx σ H2) E) :
    tDrop (tMeth C m sp [] E to at_) D σ H := ho H (Ex.refl H) _ fun H1 e1 => by
  obtain ⟨dx, fs, h1, h2⟩ := hm
  refine ⟨o, dx, fs, rfl, e1 _ _ h1, h2, h H1 e1 _ fun H2 e2 => ?_⟩
  rw [List.append_nil]
  exact k H2 (e1.trans e2)
theorem s_extL {σ : L2.St} {H : Hp} {ta te : TE} {D : Ends} {l : Addr} {xs ys : List V} (hl : H l = some (.lst xs)) (ha : Ev ta σ H (.ref l)) (h : EvL te σ H ys) (hz : xs.length + ys.length ≤ 16777216) (k : ∀ H1, Ex H H1 → D.nx σ (upd H1 l (.lst (xs ++ ys)))) :
    tDrop (tBM K "list" rExtend ta (tCons te tNil)) D σ H := ha H (Ex.refl H) _ fun H1 e1 =>
  ⟨Or.inl ⟨rfl, xs, sq_of (e1 l _ hl)⟩, h H1 e1 _ fun p H2 hp e2 h2 => ⟨l, p, xs, ys, rfl, rfl, e2 l _ (e1 l _ hl), h2, by rw [sizeLine_eq]; exact hz, k H2 (e1.trans e2)⟩⟩
end
structure Placed (K : PySem.W.Frag) (H : Hp) (la sp bp b : Nat) (ds : List OD) (nms : List (NR × PM)) (pl : Addr → Nat × Nat) (ad : Addr → Nat) : Prop where
  ly : LyAt K H la b sp bp
  s : H sp = some (.lst (iv (szs ((allK ds).map kS) (nms.map mnS))))
  g : H bp = some (.lst (iv ((List.range 4).map (begs b (szs ((allK ds).map kS) (nms.map mnS))))))
  wd : Wd K H ds pl
  pos : ∀ x ∈ allK ds, x.2.2.loads = true → (x.1, (pl x.2.1).1) ∈ (Sn17.layClass (Sn17.classOf x.2.2) ((allK ds).map kS)).1 ∧ (pl x.2.1).2 = begs b (szs ((allK ds).map kS) (nms.map mnS)) (Sn17.classOf x.2.2) + (pl x.2.1).1
  nm : ∀ x ∈ nms, NmAt K H x.1.a x.1.lp x.2 (ad x.1.a)
  com : ∀ x ∈ nms, comB x.2 = true → ∃ q, (x.1.n, q) ∈ (Sn17.layCommon (nms.map mnS) (Sn17.layClass 3 ((allK ds).map kS)).2).1 ∧ ad x.1.a = begs b (szs ((allK ds).map kS) (nms.map mnS)) 3 + q
  noc : ∀ x ∈ nms, comB x.2 = false → ad x.1.a = 0
def spPlace (K : PySem.W.Frag) : Sp := fun vs H Q _ => ∃ (b p fp : Nat) (ds : List OD) (nms : List (NR × PM)), vs = [nv b, .ref p, .ref fp] ∧ SqL K H p (dsL ds) ∧ Wd K H ds pl0 ∧ (∀ z ∈ allZs ds, 1 ≤ z.2.align ∧ z.2.align ≤ 4096) ∧ (allZs ds).length ≤ 65536 ∧
  H fp = some (.dT (nkv (nms.map (·.1)))) ∧ ((nms.map (·.1)).map (·.n)).Nodup ∧ (nms.map (·.1.a)).Nodup ∧ nms.length ≤ 16000000 ∧ (∀ x ∈ nms, NmAt K H x.1.a x.1.lp x.2 0) ∧ (∀ x ∈ nms, comB x.2 = true → 1 ≤ alN x.2 ∧ alN x.2 ≤ 4096) ∧
  ∀ la sp bp pl ad H', Placed K H' la sp bp b ds nms pl ad → UpK H H' → Q (.ref la) H'
section
variable {P : Program} {w : World} {K : PySem.W.Frag} {mg : Str → Option Value} {base : Heap}
theorem ok_place_all (T : Tx K mg) : Cal P w K mg base 4 "place_all" (spPlace K) := by
  obtain ⟨fd, F⟩ := T.d_place_all
  refine cal_of F T.g_place_all sc_place_all (fun vs H Q E h => ?_) (fun _ _ _ _ _ _ us hl => match us, hl with | [_, _, _], _ => rfl) (fun cdv A outer s H vs Q E hr h => ⟨_, (pss_cons (ps_par (i := 3) (j := 4) (by rfl) sc_place_all.nd rfl rfl (by decide) rfl rfl (pa_cons (pe_mak (ok_Layout_init T) (hr.mono (by decide)) passL (pa_cons (pv 0) pa_nil)) (pa_cons (pe_lst pa_nil) pa_nil)) (by rfl))
      (pss_cons (ps_for (passes_of rfl) rfl (pi_listK (K := K) (pv 1)) (pg_name (i := 5) sc_place_all.nd rfl (Or.inl rfl)) (pss_one (ps_expr (pe_bmK (K := K) PySem.F.plainAttrs_list PySem.F.slot_list_extend PySem.F.type_list_extend mt_extend (pv 4) (pa_cons (pe_lc (own := [("section", 6)]) (g := gName 6) rfl sc_place_all.nd (pi_listK (K := K) (pe_fldK (K := K) (pv 5))) (blkOk_by (own := [("section", 6)]) (N := ["address", "objects", "names", "layout", "loaded", "one", "section", "name", "commons"]) (sc := defScope s_place_all) (by decide +kernel)) (fun _ _ _ _ _ => pg_name (i := 6) sc_place_all.nd rfl (Or.inl rfl)) (fun _ _ _ _ _ => (pts_one (pt_val (pe_met0 (ok_Section_is_loaded T) (hr.mono (by decide)) passL (pv 6))))) (fun _ _ _ _ _ => (pv 6))) pa_nil)))))
      (pss_cons (ps_for (passes_of rfl) rfl (pi_listK (K := K) (pv 4)) (pg_name (i := 6) sc_place_all.nd rfl (Or.inl rfl)) (pss_one (ps_fldK (K := K) (pv 6) (pe_met (ok_Layout_put T) (hr.mono (by decide)) passL (pv 3) (pa_cons (pe_met0 (ok_Section_class_of T) (hr.mono (by decide)) passL (pv 6)) (pa_cons (pe_fldK (K := K) (pv 6)) (pa_cons (pe_fldK (K := K) (pv 6)) pa_nil)))))))
      (pss_cons (ps_lock (ps_setLc (i := 8) (own := [("name", 7)]) (g := gName 7) rfl sc_place_all.nd rfl rfl (sw_true rfl rfl rfl (by decide +kernel)) (pi_keys (pv 2)) (blkOk_by (own := [("name", 7)]) (N := ["address", "objects", "names", "layout", "loaded", "one", "section", "name", "commons"]) (sc := defScope s_place_all) (by decide +kernel)) (fun _ _ _ _ _ => pg_name (i := 7) sc_place_all.nd rfl (Or.inl rfl)) (fun _ _ _ _ _ => (pts_one (pt_val (pe_fldK (K := K) (pe_dget (hu_of hr) (pv 2) (pv 7) (fun _ _ => rfl)))))) (fun _ _ _ _ _ => (pe_dget (hu_of hr) (pv 2) (pv 7) (fun _ _ => rfl)))))
      (pss_cons (ps_for (passes_of rfl) rfl (pi_listK (K := K) (pv 8)) (pg_name (i := 7) sc_place_all.nd rfl (Or.inl rfl)) (pss_one (ps_fldK (K := K) (pv 7) (pe_met (ok_Layout_put T) (hr.mono (by decide)) passL (pv 3) (pa_cons pe_int (pa_cons (pe_fldK (K := K) (pv 7)) (pa_cons (pe_fldK (K := K) (pv 7)) pa_nil)))))))
      (pss_cons (ps_expr (pe_met0 (ok_Layout_settle T) (hr.mono (by decide)) passL (pv 3)))
      (pss_cons (ps_for (passes_of rfl) rfl (pi_listK (K := K) (pv 4)) (pg_name (i := 6) sc_place_all.nd rfl (Or.inl rfl)) (pss_one (ps_fldK (K := K) (pv 6) (pe_op op_add (pe_ix (ix_listK (K := K)) (pe_fldK (K := K) (pv 3)) (pe_met0 (ok_Section_class_of T) (hr.mono (by decide)) passL (pv 6)) (fun _ _ => rfl)) (pe_fldK (K := K) (pv 6))))))
      (pss_cons (ps_for (passes_of rfl) rfl (pi_listK (K := K) (pv 8)) (pg_name (i := 7) sc_place_all.nd rfl (Or.inl rfl)) (pss_one (ps_fldaugK (K := K) (pv 7) (pe_ix (ix_listK (K := K)) (pe_fldK (K := K) (pv 3)) pe_int (fun _ _ => rfl)) in_add)))
      (pss_one (ps_ret (pv 3))))))))))), ?_⟩)
  · obtain ⟨b, p, fp, ds, nms, rfl, _⟩ := h
    rfl
  · obtain ⟨b, p, fp, ds, nms, rfl, hL, W, hal, hzl, hfp, hnn, hna, hnl, hnm, hca, q⟩ := h
    have hnd := W.nd
    -- layout, loaded
    refine ⟨_, rfl, ?_⟩
    intro la dx nla ndx ne
    refine ⟨la, dx, b, rfl, upd_same, fun sp bp H1 nsp nbp hsb h1 hs1 hb1 u1 => ⟨rfl, ?_⟩⟩
    have e1 : Ex H H1 := Up.made nla ndx u1
    refine ⟨by decide, fun lp hlp => ⟨_, _, rfl, ?_⟩⟩
    generalize hH2 : upd H1 lp (.lst []) = H2
    have e12 : Ex H1 H2 := by rw [← hH2]; exact Ex.new hlp
    have e2 := e1.trans e12
    have l2 : H2 lp = some (.lst []) := by rw [← hH2]; exact upd_same
    have nsp0 : H sp = none := none_made nsp
    have nbp0 : H bp = none := none_made nbp
    have nlp0 : H lp = none := fresh_back e1 hlp
    have nls : lp ≠ sp := fun z => by rw [z, hs1] at hlp; cases hlp
    have nlb : lp ≠ bp := fun z => by rw [z, hb1] at hlp; cases hlp
    have W2 := W.mono e2
    have P2 : PC K H H2 la sp bp lp b ds nms pl0 (fun _ => 0) [0, 0, 0, 0] [b, b, b, b] [] := ⟨UpK.ex e2, ⟨dx, e12 _ _ h1⟩, e12 _ _ hs1, e12 _ _ hb1, l2, fun z m => by
      obtain ⟨d, md, mz⟩ := List.mem_flatMap.mp m
      exact (W2.obj d md).sec z mz, fun x m => (hnm x m).mono e2⟩
    clear W2
    -- what is loaded
    refine q_forM (L := ds) (f := fun d => V.ref d.told) (ev_var rfl) (ex_l e2 hL) (fun pre σ' H' => ∃ v5 : Option V, σ' = [some (nv b), some (.ref p), some (.ref fp), some (.ref la), some (.ref lp), v5, none, none, none] ∧
      PC K H H' la sp bp lp b ds nms pl0 (fun _ => 0) [0, 0, 0, 0] [b, b, b, b] (((allZs pre).filter fun z => z.2.loads).map fun z => V.ref z.1)) (fun H3 e3 => ⟨none, rfl, P2.mono e3⟩) (fun pre σ' H' pp => by
        obtain ⟨_, _, PP⟩ := pp
        exact PP.up.seq hL) ?_ ?_
    · rintro pre d post σ' H' hsp ⟨v5, rfl, PP⟩
      have hm : d ∈ ds := by rw [hsp]; simp
      have O0 := W.obj d hm
      obtain ⟨dt, ht⟩ := O0.told
      have hS : ∀ z ∈ d.zs, SecAt K H' z.1 z.2 (pl0 z.1).1 (pl0 z.1).2 := fun z m => PP.sec z (mem_allZs hm m)
      have hlen : (allZs pre).length + d.zs.length ≤ 65536 := by
        have z : allZs ds = allZs pre ++ (d.zs ++ allZs post) := by
          unfold allZs
          rw [hsp, List.flatMap_append, List.flatMap_cons]
        rw [z, List.length_append, List.length_append] at hzl
        omega
      have hd' : H' d.told = some (.ins (C_Told K) dt (toldF d)) := PP.up _ _ ht (show 4 ≠ 10 by decide) (show 4 ≠ 6 by decide)
      refine s_extL PP.l (ev_var rfl) (el_lcM (L := d.zs) (f := fun z => V.ref z.1) (g := fun z => V.ref z.1) (p := fun z => z.2.loads) (a := d.secs) (ev_fl (ev_var rfl) (fl_Told_sections T hd')) (SqL.of (PP.up.lst O0.secs)) (by omega) (fun _ => rfl) (fun z m H3 e3 => et_B (ev_loaded ((hS z m).mono e3) (ev_var rfl))) (fun z m H3 e3 _ => ev_var rfl)) (by
          have z1 := List.length_filter_le (fun z : Addr × Sn17.Sec => z.2.loads) (allZs pre)
          have z2 := List.length_filter_le (fun z : Addr × Sn17.Sec => z.2.loads) d.zs
          rw [List.length_map, List.length_map]
          omega) fun H3 e3 => ⟨some (.ref d.told), rfl, ?_⟩
      have z : allZs (pre ++ [d]) = allZs pre ++ d.zs := by
        unfold allZs
        rw [List.flatMap_append]
        simp
      rw [z, List.filter_append, List.map_append]
      exact (PP.mono e3).setL nlp0 nls nlb (Up.upd (Up.refl _ _)) upd_same
    rintro σ' H3 ⟨v5, rfl, P3⟩
    have hLL : ((allZs ds).filter fun z => z.2.loads).map (fun z => V.ref z.1) = ((allK ds).filter fun x => x.2.2.loads).map fun x => V.ref x.2.1 := by
      rw [← allK_zs, Mx.filt_map (·.2) (fun z : Addr × Sn17.Sec => z.2.loads) (fun x : KZ => x.2.2.loads) (fun _ => rfl), List.map_map]
      rfl
    rw [hLL] at P3
    generalize hll : (allK ds).filter (fun x => x.2.2.loads) = LL at P3 hLL
    have hLS : LL.map kS = ((allK ds).map kS).filter fun y => y.2.loads := by
      rw [Mx.filt_map kS (fun y : Mx.Keyed => y.2.loads) (fun x : KZ => x.2.2.loads) (fun _ => rfl), hll]
    have mLL : ∀ x ∈ LL, x.2 ∈ allZs ds ∧ x.2.2.loads = true := fun x m => by
      rw [← hll] at m
      obtain ⟨m1, m2⟩ := List.mem_filter.mp m
      exact ⟨by rw [← allK_zs]; exact List.mem_map.mpr ⟨x, m1, rfl⟩, m2⟩
    have ndLL : (LL.map fun x => x.2.1).Nodup := by
      have z : ((allK ds).map fun x => x.2.1).Nodup := by
        have z := hnd
        rw [← allK_zs, List.map_map] at z
        exact z
      rw [← hll]
      exact List.Nodup.sublist (List.Sublist.map _ List.filter_sublist) z
    have apart : ∀ {pre post : List KZ} {x : KZ}, LL = pre ++ x :: post → ∀ y ∈ pre, y.2.1 ≠ x.2.1 := fun {pre post x} h y m z => by
      have nd := ndLL
      rw [h, List.map_append, List.map_cons, List.nodup_append] at nd
      exact nd.2.2 _ (List.mem_map.mpr ⟨y, m, rfl⟩) _ (List.mem_cons_self ..) z
    -- places in the classes
    refine q_forM (L := LL) (f := fun x => V.ref x.2.1) (ev_var rfl) (SqL.of P3.l) (fun pre σ' H' => ∃ (v6 : Option V) (pl : Addr → Nat × Nat), σ' = [some (nv b), some (.ref p), some (.ref fp), some (.ref la), some (.ref lp), v5, v6, none, none] ∧
      PC K H H' la sp bp lp b ds nms pl (fun _ => 0) ((List.range 4).map fun c => (Sn17.layClass c (pre.map kS)).2) [b, b, b, b] (LL.map fun x : KZ => V.ref x.2.1) ∧ ∀ x ∈ pre, (x.1, (pl x.2.1).1) ∈ (Sn17.layClass (Sn17.classOf x.2.2) (pre.map kS)).1)
      (fun H4 e4 => ⟨none, pl0, rfl, P3.mono e4, fun x m => nomatch m⟩) (fun pre σ' H' pp => by
        obtain ⟨_, _, _, PP, _⟩ := pp
        exact SqL.of PP.l) ?_ ?_
    · rintro pre x post σ' H' hsp ⟨v6, pl, rfl, PP, hpos⟩
      have mx : x ∈ LL := by rw [hsp]; simp
      obtain ⟨mz, hld⟩ := mLL x mx
      have hc := Mx.class_lt x.2.2
      have S0 := PP.sec x.2 mz
      have ha := hal x.2 mz
      refine e_fldM (ev_var rfl) (hm_Layout_put PP.ly) (ea_cons (ev_class S0 (ev_var rfl)) (ea_cons (ev_fl (ev_var rfl) (fl_Section_size T S0)) (ea_cons (ev_fl (ev_var rfl) (fl_Section_alignment T S0)) ea_nil))) fun H4 e4 => ?_
      have P4 := PP.mono e4
      refine ⟨la, sp, bp, b, Sn17.classOf x.2.2, x.2.2.size, x.2.2.align, (Sn17.layClass (Sn17.classOf x.2.2) (pre.map kS)).2, _, rfl, P4.ly, P4.s, range4_at _ hc, ha.1, ha.2, fun H5 hs5 u5 => ?_⟩
      have P5 := P4.setSz nsp0 hsb nls u5 hs5
      obtain ⟨ds5, S5⟩ := P5.sec x.2 mz
      refine ⟨_, rfl, x.2.1, _, ds5, _, rfl, S5, T.c_Section, T.n_Section_place, (by show 10 < 1000; decide), ?_⟩
      have hput : putF "place" (nv (Sn17.up (Sn17.layClass (Sn17.classOf x.2.2) (pre.map kS)).2 x.2.2.align)) (secF x.2.2 (pl x.2.1).1 (pl x.2.1).2) = secF x.2.2 (Sn17.up (Sn17.layClass (Sn17.classOf x.2.2) (pre.map kS)).2 x.2.2.align) (pl x.2.1).2 := by rfl
      rw [hput]
      have P6 := P5.setSec (C := 0) (q := Sn17.up (Sn17.layClass (Sn17.classOf x.2.2) (pre.map kS)).2 x.2.2.align) (e := (pl x.2.1).2) hnd mz S5
      have hsn : ∀ c, Sn17.layClass c ((pre ++ [x]).map kS) = if x.2.2.loads = true ∧ Sn17.classOf x.2.2 = c then ((Sn17.layClass c (pre.map kS)).1 ++ [(x.1, Sn17.up (Sn17.layClass c (pre.map kS)).2 x.2.2.align)], Sn17.up (Sn17.layClass c (pre.map kS)).2 x.2.2.align + x.2.2.size) else Sn17.layClass c (pre.map kS) := fun c => by
        rw [List.map_append, List.map_cons, List.map_nil, Mx.layClass_snoc]
        rfl
      refine ⟨some (.ref x.2.1), fun a => if a = x.2.1 then (Sn17.up (Sn17.layClass (Sn17.classOf x.2.2) (pre.map kS)).2 x.2.2.align, (pl x.2.1).2) else pl a, rfl, ?_, fun y my => ?_⟩
      · have z : ((List.range 4).map fun c => (Sn17.layClass c (pre.map kS)).2).set (Sn17.classOf x.2.2) (Sn17.up (Sn17.layClass (Sn17.classOf x.2.2) (pre.map kS)).2 x.2.2.align + x.2.2.size) = (List.range 4).map fun c => (Sn17.layClass c ((pre ++ [x]).map kS)).2 := by
          rw [← range4_set (fun c => (Sn17.layClass c (pre.map kS)).2) (fun c => (Sn17.layClass c ((pre ++ [x]).map kS)).2) hc (fun c' n => by
            show (Sn17.layClass c' ((pre ++ [x]).map kS)).2 = _
            rw [hsn, if_neg (fun z => n z.2.symm)])]
          congr 1
          rw [hsn, if_pos ⟨hld, rfl⟩]
        rw [z] at P6
        exact P6
      · rcases List.mem_append.mp my with m | m
        · have n := apart hsp y m
          show (y.1, (if y.2.1 = x.2.1 then _ else pl y.2.1).1) ∈ _
          rw [if_neg n, List.map_append]
          exact Mx.layClass_mono (hpos y m)
        · have ey : y = x := by simpa using m
          subst ey
          show (y.1, (if y.2.1 = y.2.1 then _ else pl y.2.1).1) ∈ _
          rw [if_pos rfl, hsn, if_pos ⟨hld, rfl⟩]
          simp
    rintro σ' H4 ⟨v6, pl, rfl, P4, hpos⟩
    have hcl : ∀ c, Sn17.layClass c (LL.map kS) = Sn17.layClass c ((allK ds).map kS) := fun c => by rw [hLS, Mx.layClass_filter]
    simp only [hcl] at hpos
    rw [show ((List.range 4).map fun c => (Sn17.layClass c (LL.map kS)).2) = [(Sn17.layClass 0 ((allK ds).map kS)).2, (Sn17.layClass 1 ((allK ds).map kS)).2, (Sn17.layClass 2 ((allK ds).map kS)).2, (Sn17.layClass 3 ((allK ds).map kS)).2] by
      simp only [hcl]
      rfl] at P4
    generalize hs0 : (Sn17.layClass 0 ((allK ds).map kS)).2 = s0 at P4
    generalize hs1' : (Sn17.layClass 1 ((allK ds).map kS)).2 = s1 at P4
    generalize hs2 : (Sn17.layClass 2 ((allK ds).map kS)).2 = s2 at P4
    generalize hs3 : (Sn17.layClass 3 ((allK ds).map kS)).2 = s3 at P4
    -- the commons
    have hfp4 := P4.up _ _ hfp (show 0 ≠ 10 by decide) (show 0 ≠ 6 by decide)
    have hkv : nkv (nms.map (·.1)) = nms.map fun x => (kOf x.1.n, V.ref x.1.a) := by
      unfold nkv
      rw [List.map_map]
      rfl
    refine ⟨fp, _, hfp4, trivial, fun od => ?_⟩
    generalize hHL : upd H4 fp (.frz od (.dT (nkv (nms.map (·.1))))) = HL
    have dL : HL fp = some (.frz od (.dT (nkv (nms.map (·.1))))) := by rw [← hHL]; exact upd_same
    have nL : ∀ x ∈ nms, NmAt K HL x.1.a x.1.lp x.2 0 := fun x m => (P4.nm x m).elim fun dn k => ⟨dn, by rw [← hHL]; exact lock_of hfp4 k (fun z => nomatch z)⟩
    have hget : ∀ x ∈ nms, ∀ {σ : L2.St} {H5 : Hp} {qa : Addr} {ta tb : TE}, Ex HL H5 → H5 qa = some (.tup ((kOf x.1.n).map kV)) → Ev ta σ H5 (.ref fp) → Ev tb σ H5 (.ref qa) → Ev (tDGet ta tb) σ H5 (.ref x.1.a) := fun x m {σ H5 qa ta tb} e5 hq h1 h2 => ev_dgetT h1 h2 (.inr ⟨od, e5 _ _ dL⟩) hq (val_in hnn (List.mem_map.mpr ⟨x, m, rfl⟩))
    refine s_asgL (el_lcKy (L := nms) (kf := fun x => kOf x.1.n) (vf := fun x => V.ref x.1.a) (g := fun x => V.ref x.1.a) (p := fun x => comB x.2) (d := fp) (o := od) (ev_var rfl) (by rw [← hkv]; exact dL) hnl (fun _ => rfl) (fun x m H5 qa e5 hq => et_B (ev_fl (hget x m e5 hq (ev_var rfl) (ev_var rfl)) (fl_Name_is_common T ((nL x m).mono e5)))) (fun x m H5 qa e5 hq _ => hget x m e5 hq (ev_var rfl) (ev_var rfl))) fun cp H5 ncp e5 hcp => ⟨e5 _ _ dL, ?_⟩
    generalize hH6 : upd H5 fp (.dT (nkv (nms.map (·.1)))) = H6
    have e46 : Ex H4 H6 := by
      rw [← hH6]
      exact ex_unlock hfp4 (by rw [hHL]; exact e5)
    have c6 : H6 cp = some (.lst ((nms.filter fun x => comB x.2).map fun x => V.ref x.1.a)) := by
      rw [← hH6, upd_ne (ne_of hcp (e5 _ _ dL) (fun z => nomatch z))]
      exact hcp
    have P6 := P4.mono e46
    have ncp4 : ∀ {a : Addr} {o : HO}, H4 a = some o → o ≠ .dT (nkv (nms.map (·.1))) → cp ≠ a := fun {a o} ha hn z => by
      have k : HL a = some o := by rw [← hHL]; exact lock_of hfp4 ha hn
      rw [← z, ncp] at k
      cases k
    have ncs : cp ≠ sp := ncp4 P4.s (fun z => nomatch z)
    have ncb : cp ≠ bp := ncp4 P4.g (fun z => nomatch z)
    clear dL nL hget
    generalize hcl' : nms.filter (fun x => comB x.2) = CL at c6
    have mCL : ∀ x ∈ CL, x ∈ nms ∧ comB x.2 = true := fun x m => by
      rw [← hcl'] at m
      exact List.mem_filter.mp m
    have ndCL : (CL.map fun x => x.1.a).Nodup := by
      rw [← hcl']
      exact List.Nodup.sublist (List.Sublist.map _ List.filter_sublist) hna
    have apartC : ∀ {pre post : List (NR × PM)} {x : NR × PM}, CL = pre ++ x :: post → ∀ y ∈ pre, y.1.a ≠ x.1.a := fun {pre post x} h y m z => by
      have nd := ndCL
      rw [h, List.map_append, List.map_cons, List.nodup_append] at nd
      exact nd.2.2 _ (List.mem_map.mpr ⟨y, m, rfl⟩) _ (List.mem_cons_self ..) z
    have hCM : CL.map mnS = (nms.map mnS).filter fun x => Mx.isCom x.2 := by
      rw [Mx.filt_map mnS (fun x => Mx.isCom x.2) (fun x => comB x.2) com_mn, hcl']
    have hlist : ∀ {H' : Hp} {pl : Addr → Nat × Nat} {ad : Addr → Nat} {sz bg : List Nat} {ll : List V} {x : NR × PM} {dn : Addr} {y q : Nat}, H' cp = some (.lst (CL.map fun x : NR × PM => V.ref x.1.a)) → H' x.1.a = some (.ins (C_Name K) dn (nmF x.1.lp x.2 y)) → (upd H' x.1.a (.ins (C_Name K) dn (nmF x.1.lp x.2 q))) cp = some (.lst (CL.map fun x : NR × PM => V.ref x.1.a)) := fun h1 h2 => by
      rw [upd_ne (ne_of h1 h2 (fun z => nomatch z))]
      exact h1
    -- places of the commons
    refine q_forM (L := CL) (f := fun x => V.ref x.1.a) (ev_var rfl) (SqL.of c6) (fun pre σ' H' => ∃ (v7 : Option V) (ad : Addr → Nat), σ' = [some (nv b), some (.ref p), some (.ref fp), some (.ref la), some (.ref lp), v5, v6, v7, some (.ref cp)] ∧
      PC K H H' la sp bp lp b ds nms pl ad [s0, s1, s2, (Sn17.layCommon (pre.map mnS) s3).2] [b, b, b, b] (LL.map fun x : KZ => V.ref x.2.1) ∧ H' cp = some (.lst (CL.map fun x : NR × PM => V.ref x.1.a)) ∧ (∀ x ∈ pre, (x.1.n, ad x.1.a) ∈ (Sn17.layCommon (pre.map mnS) s3).1) ∧ ∀ a, (∀ x ∈ pre, x.1.a ≠ a) → ad a = 0)
      (fun H7 e7 => ⟨none, fun _ => 0, rfl, P6.mono e7, e7 _ _ c6, (fun x m => nomatch m), fun _ _ => rfl⟩) (fun pre σ' H' pp => by
        obtain ⟨_, _, _, _, hc, _⟩ := pp
        exact SqL.of hc) ?_ ?_
    · rintro pre x post σ' H' hsp ⟨v7, ad, rfl, PP, hc', hpos', hz'⟩
      have mx : x ∈ CL := by rw [hsp]; simp
      obtain ⟨mn, hcm⟩ := mCL x mx
      have N0 := PP.nm x mn
      have ha := hca x mn hcm
      refine e_fldM (ev_var rfl) (hm_Layout_put PP.ly) (ea_cons (ev_kN 3) (ea_cons (ev_fl (ev_var rfl) (fl_Name_size T N0)) (ea_cons (ev_fl (ev_var rfl) (fl_Name_alignment T N0)) ea_nil))) fun H7 e7 => ?_
      have P7 := PP.mono e7
      refine ⟨la, sp, bp, b, 3, szN x.2, alN x.2, (Sn17.layCommon (pre.map mnS) s3).2, _, rfl, P7.ly, P7.s, rfl, ha.1, ha.2, fun H8 hs8 u8 => ?_⟩
      have P8 := P7.setSz nsp0 hsb nls u8 hs8
      have c8 : H8 cp = some (.lst (CL.map fun x : NR × PM => V.ref x.1.a)) := u8 _ _ (e7 _ _ hc') ncs
      obtain ⟨dn, N8⟩ := P8.nm x mn
      refine ⟨_, rfl, x.1.a, _, dn, _, rfl, N8, T.c_Name, T.n_Name_address, (by show 6 < 1000; decide), ?_⟩
      have hput : putF "address" (nv (Sn17.up (Sn17.layCommon (pre.map mnS) s3).2 (alN x.2))) (nmF x.1.lp x.2 (ad x.1.a)) = nmF x.1.lp x.2 (Sn17.up (Sn17.layCommon (pre.map mnS) s3).2 (alN x.2)) := by rfl
      rw [hput]
      have P9 := P8.setNm (q := Sn17.up (Sn17.layCommon (pre.map mnS) s3).2 (alN x.2)) hna mn N8
      have hsn : Sn17.layCommon ((pre ++ [x]).map mnS) s3 = ((Sn17.layCommon (pre.map mnS) s3).1 ++ [(x.1.n, Sn17.up (Sn17.layCommon (pre.map mnS) s3).2 (alN x.2))], Sn17.up (Sn17.layCommon (pre.map mnS) s3).2 (alN x.2) + szN x.2) := by
        rw [List.map_append, Mx.layCommon_append]
        cases hx2 : x.2 with
        | common s a =>
          have e : mnS x = (x.1.n, .common s a) := by unfold mnS; rw [hx2]; rfl
          rw [List.map_cons, List.map_nil, e]
          rfl
        | sym y =>
          rw [hx2] at hcm
          cases hcm
        | nothing =>
          rw [hx2] at hcm
          cases hcm
      refine ⟨some (.ref x.1.a), fun a => if a = x.1.a then Sn17.up (Sn17.layCommon (pre.map mnS) s3).2 (alN x.2) else ad a, rfl, ?_, hlist (pl := pl) (ad := ad) (sz := []) (bg := []) (ll := []) c8 N8, fun y my => ?_, fun a hn => ?_⟩
      · rw [hsn]
        exact P9
      · rw [hsn]
        rcases List.mem_append.mp my with m | m
        · show (y.1.n, (if y.1.a = x.1.a then _ else ad y.1.a)) ∈ _
          rw [if_neg (apartC hsp y m)]
          exact List.mem_append_left _ (hpos' y m)
        · have ey : y = x := by simpa using m
          subst ey
          show (y.1.n, (if y.1.a = y.1.a then _ else ad y.1.a)) ∈ _
          rw [if_pos rfl]
          simp
      · show (if a = x.1.a then _ else ad a) = 0
        rw [if_neg (fun z => hn x (by simp) z.symm)]
        exact hz' a fun y m => hn y (List.mem_append_left _ m)
    rintro σ' H7 ⟨v7, ad, rfl, P7, c7, hposC, hzC⟩
    rw [hCM, Mx.layCommon_filter] at P7 hposC
    have hszs : [s0, s1, s2, (Sn17.layCommon (nms.map mnS) s3).2] = szs ((allK ds).map kS) (nms.map mnS) := by
      unfold szs
      rw [hs0, hs1', hs2, hs3]
    generalize hs4 : (Sn17.layCommon (nms.map mnS) s3).2 = s4 at P7 hszs
    -- the beginnings
    refine q_dropM (ev_var rfl) (hm_Layout_settle P7.ly) ea_nil fun H8 e8 => ?_
    have P8 := P7.mono e8
    refine ⟨la, sp, bp, b, s0, s1, s2, s4, rfl, P8.ly, P8.s, P8.g, hsb, fun H9 hb9 u9 => ?_⟩
    have P9 := P8.setBg nbp0 hsb nlb u9 hb9
    have c9 : H9 cp = some (.lst (CL.map fun x : NR × PM => V.ref x.1.a)) := u9 _ _ (e8 _ _ c7) ncb
    generalize hbg : begs b [s0, s1, s2, s4] = bg at P9
    -- addresses of the sections
    refine q_forM (L := LL) (f := fun x => V.ref x.2.1) (ev_var rfl) (SqL.of P9.l) (fun pre σ' H' => ∃ (v6 : Option V) (pl' : Addr → Nat × Nat), σ' = [some (nv b), some (.ref p), some (.ref fp), some (.ref la), some (.ref lp), v5, v6, v7, some (.ref cp)] ∧
      PC K H H' la sp bp lp b ds nms pl' ad [s0, s1, s2, s4] ((List.range 4).map bg) (LL.map fun x : KZ => V.ref x.2.1) ∧ H' cp = some (.lst (CL.map fun x : NR × PM => V.ref x.1.a)) ∧ (∀ a, (pl' a).1 = (pl a).1) ∧ ∀ x ∈ pre, (pl' x.2.1).2 = bg (Sn17.classOf x.2.2) + (pl' x.2.1).1)
      (fun Ha ea => ⟨v6, pl, rfl, P9.mono ea, ea _ _ c9, (fun _ => rfl), fun x m => nomatch m⟩) (fun pre σ' H' pp => by
        obtain ⟨_, _, _, PP, _⟩ := pp
        exact SqL.of PP.l) ?_ ?_
    · rintro pre x post σ' H' hsp ⟨v6', pl', rfl, PP, hc', hpl, hpre⟩
      have mx : x ∈ LL := by rw [hsp]; simp
      obtain ⟨mz, hld⟩ := mLL x mx
      have hc := Mx.class_lt x.2.2
      obtain ⟨dsx, Sx⟩ := PP.sec x.2 mz
      have S0 : SecAt K H' x.2.1 x.2.2 (pl' x.2.1).1 (pl' x.2.1).2 := ⟨dsx, Sx⟩
      refine s_fld (v := nv (bg (Sn17.classOf x.2.2) + (pl' x.2.1).1)) (ev_addN (ev_ixN (ev_fl (ev_var rfl) (fl_Layout_begins T PP.ly)) (SqL.of PP.g) (ev_class S0 (ev_var rfl)) (range4_at _ hc)) (ev_fl (ev_var rfl) (fl_Section_place T S0))) (ev_var rfl) Sx T.c_Section T.n_Section_address (by show 10 < 1000; decide) fun Ha ea => ?_
      have hput : putF "address" (nv (bg (Sn17.classOf x.2.2) + (pl' x.2.1).1)) (secF x.2.2 (pl' x.2.1).1 (pl' x.2.1).2) = secF x.2.2 (pl' x.2.1).1 (bg (Sn17.classOf x.2.2) + (pl' x.2.1).1) := by rfl
      rw [hput]
      have Pa := (PP.mono ea).setSec (C := 0) (q := (pl' x.2.1).1) (e := bg (Sn17.classOf x.2.2) + (pl' x.2.1).1) hnd mz (ea _ _ Sx)
      refine ⟨some (.ref x.2.1), fun a => if a = x.2.1 then ((pl' x.2.1).1, bg (Sn17.classOf x.2.2) + (pl' x.2.1).1) else pl' a, rfl, Pa, ?_, fun a => ?_, fun y my => ?_⟩
      · rw [upd_ne (ne_of (ea _ _ hc') (ea _ _ Sx) (fun z => nomatch z))]
        exact ea _ _ hc'
      · show (if a = x.2.1 then _ else pl' a).1 = _
        by_cases z : a = x.2.1
        · rw [if_pos z, z]
          exact hpl _
        · rw [if_neg z]
          exact hpl a
      · rcases List.mem_append.mp my with m | m
        · show (if y.2.1 = x.2.1 then _ else pl' y.2.1).2 = _ + (if y.2.1 = x.2.1 then _ else pl' y.2.1).1
          rw [if_neg (apart hsp y m)]
          exact hpre y m
        · have ey : y = x := by simpa using m
          subst ey
          show (if y.2.1 = y.2.1 then _ else pl' y.2.1).2 = _ + (if y.2.1 = y.2.1 then _ else pl' y.2.1).1
          rw [if_pos rfl]
    rintro σ' Ha ⟨v6', pl', rfl, Pa, ca, hpl, hpla⟩
    -- addresses of the commons
    refine q_forM (L := CL) (f := fun x => V.ref x.1.a) (ev_var rfl) (SqL.of ca) (fun pre σ' H' => ∃ (v7 : Option V) (ad' : Addr → Nat), σ' = [some (nv b), some (.ref p), some (.ref fp), some (.ref la), some (.ref lp), v5, v6', v7, some (.ref cp)] ∧
      PC K H H' la sp bp lp b ds nms pl' ad' [s0, s1, s2, s4] ((List.range 4).map bg) (LL.map fun x : KZ => V.ref x.2.1) ∧ H' cp = some (.lst (CL.map fun x : NR × PM => V.ref x.1.a)) ∧ (∀ x ∈ pre, ad' x.1.a = bg 3 + ad x.1.a) ∧ ∀ a, (∀ x ∈ pre, x.1.a ≠ a) → ad' a = ad a)
      (fun Hb eb => ⟨v7, ad, rfl, Pa.mono eb, eb _ _ ca, (fun x m => nomatch m), fun _ _ => rfl⟩) (fun pre σ' H' pp => by
        obtain ⟨_, _, _, _, hc, _⟩ := pp
        exact SqL.of hc) ?_ ?_
    · rintro pre x post σ' H' hsp ⟨v7', ad', rfl, PP, hc', hpre, hzz⟩
      have mx : x ∈ CL := by rw [hsp]; simp
      obtain ⟨mn, hcm⟩ := mCL x mx
      obtain ⟨dn, Nx⟩ := PP.nm x mn
      refine s_fldaug (m := ad' x.1.a) (n := bg 3) (ev_var rfl) (ev_ixN (ev_fl (ev_var rfl) (fl_Layout_begins T PP.ly)) (SqL.of PP.g) (ev_kN 3) (range4_at _ (by decide))) Nx T.c_Name T.n_Name_address (by show 6 < 1000; decide) (lk_at (ks := ["symbols", "definition", "is_common", "size", "alignment", "address"]) (i := 5) rfl (by decide +kernel) rfl) fun Hb eb => ?_
      have hput : putF "address" (nv (ad' x.1.a + bg 3)) (nmF x.1.lp x.2 (ad' x.1.a)) = nmF x.1.lp x.2 (ad' x.1.a + bg 3) := by rfl
      rw [hput]
      have Pb := (PP.mono eb).setNm (q := ad' x.1.a + bg 3) hna mn (eb _ _ Nx)
      refine ⟨some (.ref x.1.a), fun a => if a = x.1.a then ad' x.1.a + bg 3 else ad' a, rfl, Pb, hlist (pl := pl) (ad := ad) (sz := []) (bg := []) (ll := []) (eb _ _ hc') (eb _ _ Nx), fun y my => ?_, fun a hn => ?_⟩
      · rcases List.mem_append.mp my with m | m
        · show (if y.1.a = x.1.a then _ else ad' y.1.a) = _
          rw [if_neg (apartC hsp y m)]
          exact hpre y m
        · have ey : y = x := by simpa using m
          subst ey
          show (if y.1.a = y.1.a then _ else ad' y.1.a) = _
          rw [if_pos rfl, hzz y.1.a (apartC hsp), Nat.add_comm]
      · show (if a = x.1.a then _ else ad' a) = _
        rw [if_neg (fun z => hn x (by simp) z.symm)]
        exact hzz a fun y m => hn y (List.mem_append_left _ m)
    rintro σ' Hb ⟨v7', ad', rfl, Pb, cb, hada, hadz⟩
    refine s_ret (ev_var rfl) fun Hc ec => q la sp bp pl' ad' Hc ?_ (Pb.up.trans (UpK.ex ec))
    have Pc := Pb.mono ec
    have hbg' : bg = begs b (szs ((allK ds).map kS) (nms.map mnS)) := by rw [← hszs, hbg]
    refine ⟨Pc.ly, ?_, ?_, Pc.up.wd W Pc.sec, fun x mx hld => ?_, Pc.nm, fun x mx hcm => ?_, fun x mx hcm => ?_⟩
    · rw [← hszs]
      exact Pc.s
    · rw [← hbg']
      exact Pc.g
    · have mx' : x ∈ LL := by
        rw [← hll]
        exact List.mem_filter.mpr ⟨mx, hld⟩
      rw [← hbg']
      refine ⟨?_, hpla x mx'⟩
      rw [hpl]
      exact hpos x mx'
    · have mx' : x ∈ CL := by
        rw [← hcl']
        exact List.mem_filter.mpr ⟨mx, hcm⟩
      refine ⟨ad x.1.a, ?_, ?_⟩
      · rw [hs3]
        exact hposC x mx'
      · rw [← hbg']
        exact hada x mx'
    · have hnot : ∀ y ∈ CL, y.1.a ≠ x.1.a := fun y my z => by
        obtain ⟨m1, m2⟩ := mCL y my
        have e := Mx.nodup_inj (f := fun x : NR × PM => x.1.a) hna m1 mx z
        rw [e, hcm] at m2
        cases m2
      rw [hadz _ hnot]
      exact hzC _ hnot
end
end Lk

set_option Elab.async false
set_option linter.all false
set_option maxRecDepth 100000
set_option maxHeartbeats 4000000
/-! # The bytes of the classes 0 to 2 -/
namespace Lk
open PySem PySem.Spec PyProof.Rows L2 Evl He
/-- bytes that go to a class, from a place on -/
abbrev Wr := Nat × Nat × List Nat
def wr (m : Nat → List Nat) (x : Wr) : Nat → List Nat := fun c => if c = x.1 then (m c).take x.2.1 ++ x.2.2 ++ (m c).drop (x.2.1 + x.2.2.length) else m c
def WIn (sz : Nat → Nat) (x : Wr) : Prop := x.1 < 3 ∧ x.2.1 + x.2.2.length ≤ sz x.1
theorem wr_len {m : Nat → List Nat} {sz : Nat → Nat} {x : Wr} (h : ∀ c, c < 3 → (m c).length = sz c) (hx : WIn sz x) : ∀ c, c < 3 → (wr m x c).length = sz c := fun c hc => by
  unfold wr
  by_cases e : c = x.1
  · rw [if_pos e, List.length_append, List.length_append, List.length_take, List.length_drop, h c hc]
    have := hx.2
    rw [e]
    omega
  · rw [if_neg e]
    exact h c hc
def secW (pl : Addr → Nat × Nat) (d : OD) (l : List (Addr × Sn17.Sec)) : List Wr := (l.filter fun z => z.2.loads && z.2.type != 8).map fun z => (Sn17.classOf z.2, (pl z.1).1, secBytes d.bytes z.2)
def secWs (pl : Addr → Nat × Nat) (ds : List OD) : List Wr := ds.flatMap fun d => secW pl d d.zs
structure ImAt (H : Hp) (ip : Addr) (i : Nat → Addr) (m : Nat → List Nat) : Prop where
  top : H ip = some (.lst [.ref (i 0), .ref (i 1), .ref (i 2)])
  im : ∀ c, c < 3 → H (i c) = some (.lst (iv (m c)))
  ne : ∀ c, c < 3 → i c ≠ ip
  inj : ∀ c c', c < 3 → c' < 3 → i c = i c' → c = c'
theorem ImAt.mono {H H' : Hp} {ip : Addr} {i : Nat → Addr} {m : Nat → List Nat} (h : ImAt H ip i m) (e : Ex H H') : ImAt H' ip i m := ⟨e _ _ h.top, fun c hc => e _ _ (h.im c hc), h.ne, h.inj⟩
theorem ImAt.set {H : Hp} {ip : Addr} {i : Nat → Addr} {m m' : Nat → List Nat} {c : Nat} (h : ImAt H ip i m) (hc : c < 3) (hm : ∀ c', c' ≠ c → m' c' = m c') : ImAt (upd H (i c) (.lst (iv (m' c)))) ip i m' :=
  ⟨by rw [upd_ne (h.ne c hc).symm]; exact h.top, fun c' hc' => by
    by_cases e : c' = c
    · subst e
      exact upd_same
    · rw [upd_ne (fun z => e (h.inj _ _ hc' hc z)), hm c' e]
      exact h.im c' hc', h.ne, h.inj⟩
theorem im_ix (i : Nat → Addr) {c : Nat} (hc : c < 3) : ([.ref (i 0), .ref (i 1), .ref (i 2)] : List V)[c]? = some (.ref (i c)) := by
  have hcase : c = 0 ∨ c = 1 ∨ c = 2 := by omega
  rcases hcase with e | e | e <;> subst e <;> rfl
section
variable {K : PySem.W.Frag} {σ : L2.St} {H : Hp} {to tl th te : TE} {D : Ends} {tz : TS}
theorem s_sliceL {l : Addr} {xs ys : List V} {a c : Nat} (hl : H l = some (.lst xs)) (h : EvL te σ H ys) (ho : Ev to σ H (.ref l)) (h1 : Ev tl σ H (nv a)) (h2 : Ev th σ H (nv c)) (hac : a ≤ c) (hc : c ≤ xs.length) (hz : xs.length + ys.length ≤ 16777216)
    (k : ∀ H1, Ex H H1 → D.nx σ (upd H1 l (.lst (xs.take a ++ ys ++ xs.drop c)))) : tAsg te (gSliceL to tl th) D σ H := h H (Ex.refl H) _ fun p H1 hp e1 hy => ho H1 e1 _ fun H2 e2 => h1 H2 (e1.trans e2) _ fun H3 e3 => h2 H3 ((e1.trans e2).trans e3) _ fun H4 e4 => by
  have e := ((e1.trans e2).trans e3).trans e4
  refine ⟨l, p, xs, ys, (a : Int), (c : Int), rfl, rfl, rfl, rfl, e _ _ hl, e4 _ _ (e3 _ _ (e2 _ _ hy)), fun z => ?_, by omega, by omega, by omega, by rw [sizeLine_eq]; exact hz, ?_⟩
  · rw [← z, hl] at hp
    cases hp
  · rw [Int.toNat_natCast, Int.toNat_natCast]
    exact k H4 e
/-- a comprehension over a range that gives new lists -/
theorem lc_lists {ta : TA} {j : Nat} {vs : List Nat} {n : Nat} (m : Nat → List Nat) (h : EvA ta σ H [.int (n : Int)]) (hn : n ≤ 40000) (hw : ∀ x, wipe ((wipe σ vs).set j (some x)) vs = wipe σ vs)
    (he : ∀ (i : Nat) H1, Ex H H1 → i < n → EvL te ((wipe σ vs).set j (some (nv i))) H1 (iv (m i))) : ∀ H1, Ex H H1 → ∀ Q : VK, (∀ (ip : Addr) (i : Nat → Addr) H2, H1 ip = none → Ex H1 H2 → H2 ip = some (.lst ((List.range n).map fun c => V.ref (i c))) → (∀ c, c < n → H2 (i c) = some (.lst (iv (m c))) ∧ H1 (i c) = none ∧ i c ≠ ip) → (∀ c c', c < n → c' < n → i c = i c' → c = c') → Q (.ref ip) H2) →
    tLc (iRng1 ta) (gName j) tYes te vs σ H1 Q := fun H0 e Q q => h H0 e _ fun H1 e1 => ⟨(n : Int), rfl, by omega, by omega, fun Dl hD =>
  lc_range (lo := 0) (n := ((n : Int)).toNat) (fun k H' => H1 Dl = none ∧ Ex H1 H' ∧ ∃ i : Nat → Addr, H' Dl = some (.lst ((List.range k).map fun c => V.ref (i c))) ∧ (∀ c, c < k → H' (i c) = some (.lst (iv (m c))) ∧ H1 (i c) = none ∧ i c ≠ Dl) ∧ ∀ c c', c < k → c' < k → i c = i c' → c = c')
    ⟨hD, Ex.new hD, fun _ => 0, upd_same, (fun c hc => absurd hc (Nat.not_lt_zero _)), fun c c' hc => absurd hc (Nat.not_lt_zero _)⟩ (fun k H' hk p => by
    obtain ⟨p1, p2, i, p3, p4, p5⟩ := p
    rw [Int.toNat_natCast] at hk
    have e0 : (0 : Int) + (k : Int) = (k : Int) := Int.zero_add _
    show wipe ((wipe σ vs).set j (some (.int ((0 : Int) + (k : Int))))) vs = wipe σ vs ∧ tYes ((wipe σ vs).set j (some (.int ((0 : Int) + (k : Int))))) H' _
    rw [e0]
    refine ⟨hw _, ?_⟩
    show te ((wipe σ vs).set j (some (nv k))) H' _
    refine (he k H' ((e.trans e1).trans p2) hk) H' (Ex.refl _) _ fun p H2 hp e2 h2 => ⟨_, e2 _ _ p3, by rw [List.length_map, List.length_range, sizeLine_eq]; omega, p1, Ex.mut (p2.trans e2) p1, fun c => if c = k then p else i c, ?_, fun c hc => ?_, fun c c' hc hc' ee => ?_⟩
    · rw [upd_same, List.range_succ, List.map_append]
      have z1 : (List.range k).map (fun c => V.ref ((fun c => if c = k then p else i c) c)) = (List.range k).map fun c => V.ref (i c) := List.map_congr_left fun c hc => by
        show V.ref (if c = k then p else i c) = _
        rw [if_neg (by have := List.mem_range.mp hc; omega)]
      have z2 : [k].map (fun c => V.ref ((fun c => if c = k then p else i c) c)) = [V.ref p] := by
        show [V.ref (if k = k then p else i k)] = _
        rw [if_pos rfl]
      rw [z1, z2]
    · by_cases z : c = k
      · subst z
        simp only [if_pos]
        have nd : p ≠ Dl := fun z => by rw [z, p3] at hp; cases hp
        refine ⟨?_, fresh_back p2 hp, nd⟩
        rw [upd_ne nd]
        exact h2
      · simp only [if_neg z]
        obtain ⟨q1, q2, q3⟩ := p4 c (by omega)
        exact ⟨by rw [upd_ne q3]; exact e2 _ _ q1, q2, q3⟩
    · have nk : ∀ c, c < k → i c ≠ p := fun c hc z => by
        have := (p4 c hc).1
        rw [z, hp] at this
        cases this
      dsimp only at ee
      by_cases z : c = k
      · by_cases z' : c' = k
        · rw [z, z']
        · rw [if_pos z, if_neg z'] at ee
          exact absurd ee.symm (nk c' (by omega))
      · by_cases z' : c' = k
        · rw [if_neg z, if_pos z'] at ee
          exact absurd ee (nk c (by omega))
        · rw [if_neg z, if_neg z'] at ee
          exact p5 c c' (by omega) (by omega) ee) (fun H' p => by
    obtain ⟨p1, p2, i, p3, p4, p5⟩ := p
    rw [Int.toNat_natCast] at p3 p4 p5
    exact q Dl i H' (fresh_back e1 p1) (e1.trans p2) p3 (fun c hc => ⟨(p4 c hc).1, fresh_back e1 (p4 c hc).2.1, (p4 c hc).2.2⟩) p5)⟩
theorem q_asgLists {ta : TA} {j i0 : Nat} {vs : List Nat} {n : Nat} (m : Nat → List Nat) (h : EvA ta σ H [.int (n : Int)]) (hn : n ≤ 40000) (hw : ∀ x, wipe ((wipe σ vs).set j (some x)) vs = wipe σ vs)
    (he : ∀ (i : Nat) H1, Ex H H1 → i < n → EvL te ((wipe σ vs).set j (some (nv i))) H1 (iv (m i)))
    (q : ∀ (ip : Addr) (i : Nat → Addr) H2, H ip = none → Ex H H2 → H2 ip = some (.lst ((List.range n).map fun c => V.ref (i c))) → (∀ c, c < n → H2 (i c) = some (.lst (iv (m c))) ∧ H (i c) = none ∧ i c ≠ ip) → (∀ c c', c < n → c' < n → i c = i c' → c = c') → tz D (σ.set i0 (some (.ref ip))) H2) :
    tSeq (tAsg (tLc (iRng1 ta) (gName j) tYes te vs) (gName i0)) tz D σ H := lc_lists m h hn hw he H (Ex.refl H) (fun v H2 => tz D (σ.set i0 (some v)) H2) q
end
def spImgs (K : PySem.W.Frag) : Sp := fun vs H Q _ => ∃ (la sp bp p b : Nat) (ds : List OD) (pl : Addr → Nat × Nat) (sz : Nat → Nat), vs = [.ref la, .ref p] ∧ LyAt K H la b sp bp ∧ H sp = some (.lst (iv [sz 0, sz 1, sz 2, sz 3])) ∧ SqL K H p (dsL ds) ∧ Wd K H ds pl ∧ (∀ c, c < 3 → sz c ≤ 4194304) ∧
  (∀ d ∈ ds, ∀ z ∈ d.zs, z.2.loads = true → z.2.type ≠ 8 → Sn17.classOf z.2 < 3 ∧ (pl z.1).1 + z.2.size ≤ sz (Sn17.classOf z.2) ∧ z.2.offset + z.2.size ≤ d.bytes.length) ∧
  ∀ (ip : Addr) (i : Nat → Addr) (H' : Hp), H ip = none → (∀ c, c < 3 → H (i c) = none) → Ex H H' → ImAt H' ip i ((secWs pl ds).foldl wr fun c => List.replicate (sz c) 0) → Q (.ref ip) H'
section
variable {P : Program} {w : World} {K : PySem.W.Frag} {mg : Str → Option Value} {base : Heap}
theorem secW_in {pl : Addr → Nat × Nat} {sz : Nat → Nat} {d : OD} (h : ∀ z ∈ d.zs, z.2.loads = true → z.2.type ≠ 8 → Sn17.classOf z.2 < 3 ∧ (pl z.1).1 + z.2.size ≤ sz (Sn17.classOf z.2) ∧ z.2.offset + z.2.size ≤ d.bytes.length) {l : List (Addr × Sn17.Sec)} (hl : ∀ z ∈ l, z ∈ d.zs) : ∀ x ∈ secW pl d l, WIn sz x := fun x m => by
  obtain ⟨z, mz, rfl⟩ := List.mem_map.mp m
  obtain ⟨m1, m2⟩ := List.mem_filter.mp mz
  rw [Bool.and_eq_true] at m2
  obtain ⟨h1, h2, h3⟩ := h z (hl z m1) m2.1 (by simpa using m2.2)
  refine ⟨h1, ?_⟩
  show (pl z.1).1 + (secBytes d.bytes z.2).length ≤ sz (Sn17.classOf z.2)
  unfold secBytes
  rw [List.length_take, List.length_drop]
  omega
theorem fold_len {sz : Nat → Nat} : ∀ {l : List Wr} {m : Nat → List Nat}, (∀ x ∈ l, WIn sz x) → (∀ c, c < 3 → (m c).length = sz c) → ∀ c, c < 3 → (l.foldl wr m c).length = sz c
  | [], m, _, h => h
  | x :: r, m, hl, h => by
    rw [List.foldl_cons]
    exact fold_len (fun y hy => hl y (List.mem_cons_of_mem _ hy)) (wr_len h (hl x (List.mem_cons_self ..)))
theorem ok_images_of (T : Tx K mg) : Cal P w K mg base 3 "images_of" (spImgs K) := by
  obtain ⟨fd, F⟩ := T.d_images_of
  refine cal_of F T.g_images_of sc_images_of (fun vs H Q E h => ?_) (fun _ _ _ _ _ _ us hl => match us, hl with | [_, _], _ => rfl) (fun cdv A outer s H vs Q E hr h => ⟨_, (pss_cons (ps_setLc (i := 2) (own := [("number", 6)]) (g := gName 6) rfl sc_images_of.nd rfl rfl (sw_true rfl rfl rfl (by decide +kernel)) (pi_range1 (by rfl) T.b_range (pa_cons pe_int pa_nil)) (blkOk_by (own := [("number", 6)]) (N := ["layout", "objects", "found", "one", "section", "image", "number"]) (sc := defScope s_images_of) (by decide +kernel)) (fun _ _ _ _ _ => pg_name (i := 6) sc_images_of.nd rfl (Or.inl rfl)) (fun _ _ _ _ _ => pts_nil) (fun _ _ _ _ _ => (pe_op op_rep (pe_lst (pa_cons pe_int pa_nil)) (pe_ix (ix_listK (K := K)) (pe_fldK (K := K) (pv 0)) (pv 6) (fun _ _ => rfl)))))
      (pss_cons (ps_for (passes_of rfl) rfl (pi_listK (K := K) (pv 1)) (pg_name (i := 3) sc_images_of.nd rfl (Or.inl rfl)) (pss_one (ps_for (passes_of rfl) rfl (pi_listK (K := K) (pe_fldK (K := K) (pv 3))) (pg_name (i := 4) sc_images_of.nd rfl (Or.inl rfl)) (pss_one (ps_if (PW.pt (pw_and (pt_val (pe_met0 (ok_Section_is_loaded T) (hr.mono (by decide)) passL (pv 4))) (pw_and1 (pt_cmpR op_ne (pe_fldK (K := K) (pv 4)) (pe_gi T.v_ZEROS) (nomark _))))) (pss_cons (ps_set (i := 5) sc_images_of.nd rfl (Or.inl rfl) (pe_ix (ix_listK (K := K)) (pv 2) (pe_met0 (ok_Section_class_of T) (hr.mono (by decide)) passL (pv 4)) (fun _ _ => rfl)))
      (pss_one (ps_asg (pe_cal (ok_bytes_of T) (hr.mono (by decide)) passL (pa_cons (pe_fldK (K := K) (pv 3)) (pa_cons (pv 4) pa_nil))) (pg_sliceL (pv 5) (pe_fldK (K := K) (pv 4)) (pe_op op_add (pe_fldK (K := K) (pv 4)) (pe_fldK (K := K) (pv 4))))))) pss_nil)))))
      (pss_one (ps_ret (pv 2))))), ?_⟩)
  · obtain ⟨la, sp, bp, p, b, ds, pl, sz, rfl, _⟩ := h
    rfl
  · obtain ⟨la, sp, bp, p, b, ds, pl, sz, rfl, hLy, hs, hL, W, hsz, hin, q⟩ := h
    have hsx : ∀ c, c < 3 → [sz 0, sz 1, sz 2, sz 3][c]? = some (sz c) := fun c hc => by
      have hcase : c = 0 ∨ c = 1 ∨ c = 2 := by omega
      rcases hcase with e | e | e <;> subst e <;> rfl
    refine q_asgLists (n := 3) (fun c => List.replicate (sz c) 0) (ea_cons (ev_kN 3) ea_nil) (by decide) (fun _ => rfl) (fun c H1 e1 hc => ?_) fun ip i H1 nip e1 hip hi hij => ?_
    · have z : iv (List.replicate (sz c) 0) = (List.replicate (sz c) [nv 0]).flatten := by
        generalize sz c = n
        induction n with
        | zero => rfl
        | succ n ih =>
          rw [List.replicate_succ, List.replicate_succ, List.flatten_cons, ← ih]
          rfl
      rw [z]
      refine el_rep (xs := [nv 0]) (k := sz c) (el_lst (ea_cons (ev_kN 0) ea_nil) (show 1 ≤ 100000 by decide)) (fun H2 e2 => ev_ixN (ev_fl (ev_var rfl) (fl_Layout_sizes T (hLy.mono (e1.trans e2)))) (SqL.of ((e1.trans e2) _ _ hs)) (ev_var rfl) (hsx c hc)) ?_ ?_
      · have := hsz c hc
        show 1 * sz c ≤ _
        omega
      · have := hsz c hc
        omega
    have I1 : ImAt H1 ip i fun c => List.replicate (sz c) 0 := ⟨hip, fun c hc => (hi c hc).1, fun c hc => (hi c hc).2.2, hij⟩
    have ni : ∀ c, c < 3 → H (i c) = none := fun c hc => (hi c hc).2.1
    have hlen0 : ∀ c, c < 3 → (List.replicate (sz c) 0).length = sz c := fun c _ => List.length_replicate
    refine q_forM (L := ds) (f := fun d => V.ref d.told) (ev_var rfl) (ex_l e1 hL) (fun pre σ' H' => ∃ v3 v4 v5 : Option V, σ' = [some (.ref la), some (.ref p), some (.ref ip), v3, v4, v5, none] ∧ Ex H H' ∧ ImAt H' ip i ((secWs pl pre).foldl wr fun c => List.replicate (sz c) 0))
      (fun H2 e2 => ⟨none, none, none, rfl, e1.trans e2, I1.mono e2⟩) (fun pre σ' H' pp => by
        obtain ⟨_, _, _, _, e, _⟩ := pp
        exact ex_l e hL) ?_ ?_
    rotate_left
    · rintro σ' H' ⟨v3, v4, v5, rfl, e, I⟩
      exact s_ret (ev_var rfl) fun H2 e2 => q ip i H2 nip ni (e.trans e2) (I.mono e2)
    rintro pre d post σ' H' hsp ⟨v3, v4, v5, rfl, e, I⟩
    have hm : d ∈ ds := by rw [hsp]; simp
    have O0 := W.obj d hm
    obtain ⟨dt, ht⟩ := O0.told
    have hwi : ∀ x ∈ secWs pl pre, WIn sz x := fun x m => by
      obtain ⟨d', m1, m2⟩ := List.mem_flatMap.mp m
      exact secW_in (hin d' (by rw [hsp]; simp [m1])) (fun z m => m) x m2
    have hm0 := fold_len hwi hlen0
    generalize hm0' : (secWs pl pre).foldl wr (fun c => List.replicate (sz c) 0) = m0 at I hm0
    have hpd : (secWs pl (pre ++ [d])).foldl wr (fun c => List.replicate (sz c) 0) = (secW pl d d.zs).foldl wr m0 := by
      have z : secWs pl (pre ++ [d]) = secWs pl pre ++ secW pl d d.zs := by
        unfold secWs
        rw [List.flatMap_append]
        simp
      rw [z, List.foldl_append, hm0']
    rw [hpd]
    refine s_forM (L := d.zs) (f := fun z => V.ref z.1) (ev_fl (ev_var rfl) (fl_Told_sections T (e _ _ ht))) (SqL.of (e _ _ O0.secs)) (fun pre2 σ' H' => ∃ v4 v5 : Option V, σ' = [some (.ref la), some (.ref p), some (.ref ip), some (.ref d.told), v4, v5, none] ∧ Ex H H' ∧ ImAt H' ip i ((secW pl d pre2).foldl wr m0))
      (fun H2 e2 => ⟨v4, v5, rfl, e.trans e2, I.mono e2⟩) (fun pre2 σ' H' pp => by
        obtain ⟨_, _, _, e, _⟩ := pp
        exact SqL.of (e _ _ O0.secs)) ?_ ?_
    rotate_left
    · rintro σ' H' ⟨v4', v5', rfl, e', I'⟩
      exact ⟨some (.ref d.told), v4', v5', rfl, e', I'⟩
    rintro pre2 z post2 σ' H' hsp2 ⟨v4', v5', rfl, e', I'⟩
    have hz : z ∈ d.zs := by rw [hsp2]; simp
    have S' := (O0.sec z hz).mono e'
    have hsn : secW pl d (pre2 ++ [z]) = secW pl d pre2 ++ (if (z.2.loads && z.2.type != 8) = true then [(Sn17.classOf z.2, (pl z.1).1, secBytes d.bytes z.2)] else []) := by
      unfold secW
      rw [List.filter_append, List.map_append, List.filter_cons]
      congr 1
      cases (z.2.loads && z.2.type != 8) <;> rfl
    refine s_when (b := z.2.loads && z.2.type != 8) (et_is (et_and (et_B (ev_loaded S' (ev_var rfl))) fun _ => et_neN (ev_fl (ev_var rfl) (fl_Section_sort_of T S')) (ev_kN 8)) (by congr 1)) (fun c1 H2 e2 => ?_) (fun c1 H2 e2 => ?_)
    rotate_left
    · refine ⟨some (.ref z.1), v5', rfl, e'.trans e2, ?_⟩
      rw [hsn, c1]
      rw [if_neg (by decide), List.append_nil]
      exact I'.mono e2
    have c1' := c1
    rw [Bool.and_eq_true] at c1'
    obtain ⟨hc3, hpz, hoz⟩ := hin d hm z hz c1'.1 (by simpa using c1'.2)
    have S2 := S'.mono e2
    have I2 := I'.mono e2
    refine q_asg (v := .ref (i (Sn17.classOf z.2))) (ev_ixL (ev_var rfl) (SqL.of I2.top) (ev_class S2 (ev_var rfl)) (im_ix i hc3)) fun H3 e3 => ?_
    have S3 := S2.mono e3
    have I3 := I2.mono e3
    have e03 := (e'.trans e2).trans e3
    have hm1 := fold_len (l := secW pl d pre2) (secW_in (hin d hm) (fun y m => by rw [hsp2]; simp [m])) hm0
    have hsl : (secBytes d.bytes z.2).length = z.2.size := by
      unfold secBytes
      rw [List.length_take, List.length_drop]
      omega
    have hrl := O0.row.len
    have hs4 := hsz _ hc3
    refine s_sliceL (a := (pl z.1).1) (c := (pl z.1).1 + z.2.size) (I3.im _ hc3) (el_bytes (O0.row.mono e03) S3 (ev_fl (ev_var rfl) (fl_Told_row T (e03 _ _ ht))) (ev_var rfl)) (ev_var rfl) (ev_fl (ev_var rfl) (fl_Section_place T S3)) (ev_addN (ev_fl (ev_var rfl) (fl_Section_place T S3)) (ev_fl (ev_var rfl) (fl_Section_size T S3))) (Nat.le_add_right _ _) (by
      rw [iv_len, hm1 _ hc3]
      exact hpz) (by
      rw [iv_len, iv_len, hm1 _ hc3, hsl]
      omega) fun H4 e4 => ?_
    refine ⟨some (.ref z.1), some (.ref (i (Sn17.classOf z.2))), rfl, Ex.mut (e03.trans e4) (ni _ hc3), ?_⟩
    rw [hsn, c1, if_pos rfl, List.foldl_append, List.foldl_cons, List.foldl_nil]
    have I4 := (I3.mono e4).set (m' := wr ((secW pl d pre2).foldl wr m0) (Sn17.classOf z.2, (pl z.1).1, secBytes d.bytes z.2)) hc3 (fun c' n => by
      unfold wr
      rw [if_neg n])
    have hv : iv (wr ((secW pl d pre2).foldl wr m0) (Sn17.classOf z.2, (pl z.1).1, secBytes d.bytes z.2) (Sn17.classOf z.2)) = (iv ((secW pl d pre2).foldl wr m0 (Sn17.classOf z.2))).take (pl z.1).1 ++ iv (secBytes d.bytes z.2) ++ (iv ((secW pl d pre2).foldl wr m0 (Sn17.classOf z.2))).drop ((pl z.1).1 + z.2.size) := by
      unfold wr
      rw [if_pos rfl, iv_append, iv_append]
      show iv (List.take (pl z.1).1 _) ++ iv (secBytes d.bytes z.2) ++ iv (List.drop ((pl z.1).1 + (secBytes d.bytes z.2).length) _) = _
      rw [hsl]
      unfold iv
      rw [List.map_take, List.map_drop]
    rw [hv] at I4
    exact I4
end
end Lk

/-! # Plain law: the value of a relocation -/
namespace Mx
open Sn17
def valP (t : Nat) (x : Int) (p : Nat) : R Nat :=
  let v : Int := if t = 2 ∨ t = 4 ∨ t = 24 then x - p else x
  if t = 1 ∨ t = 24 then .ok (v % 2 ^ 64).toNat
  else if t = 10 then (if 0 ≤ v ∧ v < 2 ^ 32 then .ok v.toNat else .error .far)
  else if -(2 ^ 31) ≤ v ∧ v < 2 ^ 31 then .ok (v % 2 ^ 32).toNat else .error .far
theorem filled_eq {t s p : Nat} {a : Int} (h : t ≠ 0) : filled t s a p = (valP t (s + a) p).map fun n => (widthOf t, n) := by
  unfold filled valP widthOf
  dsimp only
  rw [if_neg h, if_neg h]
  generalize (if t = 2 ∨ t = 4 ∨ t = 24 then (s : Int) + a - (p : Int) else (s : Int) + a) = v
  by_cases h1 : t = 1 ∨ t = 24
  · rw [if_pos h1, if_pos h1, if_pos h1]
    rfl
  · rw [if_neg h1, if_neg h1, if_neg h1]
    by_cases h2 : t = 10
    · rw [if_pos h2, if_pos h2]
      by_cases h3 : 0 ≤ v ∧ v < 2 ^ 32
      · rw [if_pos h3, if_pos h3]
        rfl
      · rw [if_neg h3, if_neg h3]
        rfl
    · rw [if_neg h2, if_neg h2]
      by_cases h3 : -(2 ^ 31) ≤ v ∧ v < 2 ^ 31
      · rw [if_pos h3, if_pos h3]
        rfl
      · rw [if_neg h3, if_neg h3]
        rfl
theorem put_succ (k n : Nat) : put (k + 1) n = put k n ++ [n / 256 ^ k % 256] := by
  unfold put
  rw [List.range_succ, List.map_append]
  rfl
theorem put_len (k n : Nat) : (put k n).length = k := by
  unfold put
  rw [List.length_map, List.length_range]
theorem land255 (n : Nat) : Nat.land n 255 = n % 256 := Nat.and_two_pow_sub_one_eq_mod n 8
theorem byte_at (n k : Nat) : Nat.land (n / 2 ^ (8 * k)) 255 = n / 256 ^ k % 256 := by rw [land255, pow8]
end Mx

set_option Elab.async false
set_option linter.all false
set_option maxRecDepth 100000
set_option maxHeartbeats 4000000
/-! # What a relocation leads to, its value -/
namespace Lk
open PySem PySem.Spec PyProof.Rows L2 Evl He
def spVal (K : PySem.W.Frag) : Sp := fun vs H Q E => ∃ (t p : Nat) (x : Int), vs = [nv t, .int x, nv p] ∧ (∀ n, Mx.valP t x p = .ok n → RetV (nv n) H Q) ∧ ErrR K E (Mx.valP t x p)
structure NamesAt (K : PySem.W.Frag) (H : Hp) (fp : Addr) (ds : List OD) (nms : List (NR × PM)) (ad : Addr → Nat) : Prop where
  dict : H fp = some (.dT (nkv (nms.map (·.1))))
  nd : ((nms.map (·.1)).map (·.n)).Nodup
  nm : ∀ x ∈ nms, NmAt K H x.1.a x.1.lp x.2 (ad x.1.a)
  sym : ∀ x ∈ nms, ∀ p, x.2 = .sym p → PrAt K H p ∧ PIn ds p ∧ p.s.sec ≠ 0 ∧ p.s.sec ≠ 65522
def zoF (ds : List OD) (p : PR) : List (Addr × Sn17.Sec) := ((ds[p.o]?).map (·.zs)).getD []
/-- where a name lies -/
def whrN (ds : List OD) (nms : List (NR × PM)) (pl : Addr → Nat × Nat) (ad : Addr → Nat) (n : List Nat) : Option Nat := match nms.find? (fun x => decide (x.1.n = n)) with
  | some x => whr (zoF ds) pl (ad x.1.a) x.2
  | none => none
def tgt (ds : List OD) (nms : List (NR × PM)) (pl : Addr → Nat × Nat) (ad : Addr → Nat) (d : OD) (s : Sn17.Sym) : Option Nat := if s.bind = 0 then adr d.zs pl s else whrN ds nms pl ad s.name
/-- what the symbols of an object are -/
def SymsOk (d : OD) : Prop := ∀ z ∈ d.zy, (z.2.sec < d.zs.length ∨ z.2.sec = 65521 ∨ z.2.sec = 65522) ∧ (z.2.sec = 65522 → z.2.bind ≠ 0)
def spTgt (K : PySem.W.Frag) : Sp := fun vs H Q E => ∃ (ra c fp : Addr) (d : OD) (ds : List OD) (nms : List (NR × PM)) (pl : Addr → Nat × Nat) (ad : Addr → Nat) (r : Sn17.Rel) (z : Addr × Sn17.Sym), vs = [.ref d.told, .ref ra, .ref fp] ∧
  Wd K H ds pl ∧ d ∈ ds ∧ RelAt K H ra r c ∧ d.zy[r.sym]? = some z ∧ (∀ d ∈ ds, SymsOk d) ∧ NamesAt K H fp ds nms ad ∧ (z.2.bind ≠ 0 → ∃ x ∈ nms, x.1.n = z.2.name) ∧
  (∀ n, tgt ds nms pl ad d z.2 = some n → RetV (nv n) H Q) ∧ (tgt ds nms pl ad d z.2 = none → Err K E (-4))
section
variable {P : Program} {w : World} {K : PySem.W.Frag} {mg : Str → Option Value} {base : Heap}
theorem NamesAt.mono {H H' : Hp} {fp : Addr} {ds : List OD} {nms : List (NR × PM)} {ad : Addr → Nat} (h : NamesAt K H fp ds nms ad) (e : Ex H H') : NamesAt K H' fp ds nms ad :=
  ⟨e _ _ h.dict, h.nd, fun x m => (h.nm x m).mono e, fun x m p hp => ⟨(h.sym x m p hp).1.mono e, (h.sym x m p hp).2⟩⟩
theorem ev_chainI {σ : L2.St} {H : Hp} {ta tb tc : TE} {a x b : Int} (h1 : Ev ta σ H (.int a)) (h2 : Ev tb σ H (.int x)) (h3 : Ev tc σ H (.int b)) : Ev (tChain (rI0 fun i j => .bl (decide (i ≤ j))) (rI0 fun i j => .bl (decide (i < j))) ta tb tc) σ H (.bl (decide (a ≤ x) && decide (x < b))) :=
  ev_chain h1 h2 h3 rv_I0 rv_I0
theorem ev_modI {σ : L2.St} {H : Hp} {ta tb : TE} {x : Int} {m : Nat} (ha : Ev ta σ H (.int x)) (hb : Ev tb σ H (nv m)) (h : 0 < m) : Ev (tOp (rI (fun _ j => 0 < j) fun i j => .int (i % j)) ta tb) σ H (nv (x % (m : Int)).toNat) := ev_I ha hb (show (0 : Int) < (m : Int) by omega) (by
  show V.int _ = V.int _
  congr 1
  exact (Int.toNat_of_nonneg (Int.emod_nonneg _ (by omega))).symm)
theorem ok_value_of (T : Tx K mg) : Cal P w K mg base 5 "value_of" (spVal K) := by
  obtain ⟨fd, F⟩ := T.d_value_of
  refine cal_of F T.g_value_of sc_value_of (fun vs H Q E h => ?_) (fun _ _ _ _ _ _ us hl => match us, hl with | [_, _, _], _ => rfl) (fun cdv A outer s H vs Q E hr h => ⟨_, (pss_cons (ps_if (pt_cmpR op_eq (pv 0) pe_int (nomark _)) (pss_one (ps_ret (pe_op op_mod (pv 1) (pe_gi T.v_CUT)))) pss_nil)
      (pss_cons (ps_if (pt_cmpR op_eq (pv 0) pe_int (nomark _)) (pss_one (ps_ret (pe_op op_mod (pe_op op_sub (pv 1) (pv 2)) (pe_gi T.v_CUT)))) pss_nil)
      (pss_cons (ps_set (i := 3) sc_value_of.nd rfl (Or.inl rfl) (pe_ifExp (pt_cmpR (op_inK (K := K)) (pv 0) (pe_tup (pa_cons pe_int (pa_cons pe_int pa_nil))) (by rfl)) (pe_op op_sub (pv 1) (pv 2)) (pv 1)))
      (pss_cons (ps_if (pt_cmpR op_eq (pv 0) pe_int (nomark _)) (pss_one (ps_expr (pe_cal (ok_check T) (hr.mono (by decide)) (passes_call (takes_of rfl rfl rfl rfl) (fun _ _ _ _ h => h)) (pa_cons (pe_chain op_le op_lt pe_int (pv 3) (pe_op op_shl pe_int pe_int)) (pa_cons (pe_un un_neg pe_int) pa_nil))))) (pss_one (ps_expr (pe_cal (ok_check T) (hr.mono (by decide)) (passes_call (takes_of rfl rfl rfl rfl) (fun _ _ _ _ h => h)) (pa_cons (pe_chain op_le op_lt (pe_un un_neg (pe_op op_shl pe_int pe_int)) (pv 3) (pe_op op_shl pe_int pe_int)) (pa_cons (pe_un un_neg pe_int) pa_nil))))))
      (pss_one (ps_ret (pe_op op_mod (pv 3) (pe_op op_shl pe_int pe_int)))))))), ?_⟩)
  · obtain ⟨t, p, x, rfl, _⟩ := h
    rfl
  · obtain ⟨t, p, x, rfl, q1, q2⟩ := h
    have cut : Ev (tC (.int 18446744073709551616)) [some (nv t), some (.int x), some (nv p), none] H (nv (2 ^ 64)) := ev_kN (2 ^ 64) (by rfl)
    refine q_when (et_eqN (ev_var rfl) (ev_kN 1)) (fun c1 H1 e1 => ?_) (fun c1 H1 e1 => ?_)
    · have d1 : t = 1 := of_decide_eq_true c1
      refine s_ret (ev_modI (m := 2 ^ 64) (ev_var rfl) (cut.mono e1) (by decide)) fun H2 e2 => q1 _ ?_ H2 (e1.trans e2)
      unfold Mx.valP
      subst d1
      rfl
    have d1 : ¬ t = 1 := of_decide_eq_false c1
    refine q_when (et_eqN (ev_var rfl) (ev_kN 24)) (fun c2 H2 e2 => ?_) (fun c2 H2 e2 => ?_)
    · have d2 : t = 24 := of_decide_eq_true c2
      refine s_ret (ev_modI (x := x - (p : Int)) (m := 2 ^ 64) (ev_I0 (ev_var rfl) (ev_var rfl) rfl) (cut.mono (e1.trans e2)) (by decide)) fun H3 e3 => q1 _ ?_ H3 ((e1.trans e2).trans e3)
      unfold Mx.valP
      subst d2
      rfl
    have d2 : ¬ t = 24 := of_decide_eq_false c2
    have e12 := e1.trans e2
    refine q_asg (v := .int (if t = 2 ∨ t = 4 then x - p else x)) (ev_is (ev_ifs (b := [2, 4].contains t) (x := .int (x - p)) (y := .int x) (et_test (ev_inN (l := [2, 4]) (ev_var rfl) (ea_cons' (ev_kN 2) (ea_cons' (ev_kN 4) ea_nil')) (by decide))) (fun _ => ev_I0 (ev_var rfl) (ev_var rfl) rfl) (fun _ => ev_var rfl)) ?_) fun H3 e3 => ?_
    · by_cases h2 : t = 2
      · subst h2
        rfl
      · by_cases h4 : t = 4
        · subst h4
          rfl
        · rw [if_neg (by simp [h2, h4]), if_neg (by rintro (z | z); exact h2 z; exact h4 z)]
    have hv : Mx.valP t x p = if t = 10 then (if 0 ≤ (if t = 2 ∨ t = 4 then x - p else x) ∧ (if t = 2 ∨ t = 4 then x - p else x) < 2 ^ 32 then .ok (if t = 2 ∨ t = 4 then x - p else x).toNat else .error .far) else if -(2 ^ 31) ≤ (if t = 2 ∨ t = 4 then x - p else x) ∧ (if t = 2 ∨ t = 4 then x - p else x) < 2 ^ 31 then .ok ((if t = 2 ∨ t = 4 then x - p else x) % 2 ^ 32).toNat else .error .far := by
      unfold Mx.valP
      dsimp only
      have z : (t = 2 ∨ t = 4 ∨ t = 24) ↔ (t = 2 ∨ t = 4) := by
        constructor
        · rintro (z | z | z)
          · exact .inl z
          · exact .inr z
          · exact absurd z d2
        · rintro (z | z)
          · exact .inl z
          · exact .inr (.inl z)
      simp only [z]
      rw [if_neg (show ¬ (t = 1 ∨ t = 24) by rintro (z | z); exact d1 z; exact d2 z)]
    generalize (if t = 2 ∨ t = 4 then x - (p : Int) else x) = v at hv
    have e13 := e12.trans e3
    have sh : ∀ {H' : Hp} {σ : L2.St} (k : Nat), k ≤ 100 → Ev (tOp (rI CPow fun i j => .int (i * 2 ^ j.toNat)) (tC (.int 1)) (tC (.int (k : Int)))) σ H' (nv (2 ^ k)) := fun k hk => ev_is (ev_shlN (a := 1) (b := k) (ev_kN 1) ev_c (by decide) (by omega)) (by rw [Nat.one_mul])
    have fin : ∀ H4, Ex H3 H4 → Mx.valP t x p = .ok (v % 2 ^ 32).toNat → tRet (tOp (rI (fun _ j => 0 < j) fun i j => .int (i % j)) (tVar 3) (tOp (rI CPow fun i j => .int (i * 2 ^ j.toNat)) (tC (.int 1)) (tC (.int ((32 : Nat) : Int))))) { nx := fun _ H' => Q .non H', rt := Q } [some (nv t), some (.int x), some (nv p), some (.int v)] H4 := fun H4 e4 he =>
      s_ret (ev_modI (x := v) (m := 2 ^ 32) (ev_var rfl) (sh 32 (by decide)) (by decide)) fun H5 e5 => q1 _ he H5 ((e13.trans e4).trans e5)
    refine q_if (et_eqN (ev_var rfl) (ev_kN 10)) (fun c3 H4 e4 => ?_) (fun c3 H4 e4 => ?_)
    · have d3 : t = 10 := of_decide_eq_true c3
      rw [if_pos d3] at hv
      refine e_check (c := -7) (ev_chainI (a := 0) (x := v) (b := ((2 ^ 32 : Nat) : Int)) ev_c (ev_var rfl) (sh 32 (by decide))) (ev_neg (-7)) (fun c4 H5 e5 => ?_) (fun c4 => ?_)
      · rw [Bool.and_eq_true] at c4
        have h1 := of_decide_eq_true c4.1
        have h2 := of_decide_eq_true c4.2
        refine fin H5 (e4.trans e5) ?_
        rw [hv, if_pos ⟨h1, by omega⟩, Int.emod_eq_of_lt h1 (by omega)]
      · refine q2 .far ?_
        rw [hv, if_neg]
        rintro ⟨h1, h2⟩
        rw [decide_eq_true h1, decide_eq_true (show v < ((2 ^ 32 : Nat) : Int) by omega)] at c4
        cases c4
    · have d3 : ¬ t = 10 := of_decide_eq_false c3
      rw [if_neg d3] at hv
      refine e_check (c := -7) (ev_chainI (a := -((2 ^ 31 : Nat) : Int)) (x := v) (b := ((2 ^ 31 : Nat) : Int)) (ev_un (sh 31 (by decide)) ru_neg) (ev_var rfl) (sh 31 (by decide))) (ev_neg (-7)) (fun c4 H5 e5 => ?_) (fun c4 => ?_)
      · rw [Bool.and_eq_true] at c4
        have h1 := of_decide_eq_true c4.1
        have h2 := of_decide_eq_true c4.2
        refine fin H5 (e4.trans e5) ?_
        rw [hv, if_pos ⟨by omega, by omega⟩]
      · refine q2 .far ?_
        rw [hv, if_neg]
        rintro ⟨h1, h2⟩
        rw [decide_eq_true (show -((2 ^ 31 : Nat) : Int) ≤ v by omega), decide_eq_true (show v < ((2 ^ 31 : Nat) : Int) by omega)] at c4
        cases c4
theorem ov_non (o : Option Nat) : decide (ov o = .non) = o.isNone := by
  cases o with
  | none => exact decide_eq_true rfl
  | some n => exact decide_eq_false (fun z => nomatch z)
theorem zo_ok {H : Hp} {ds : List OD} {pl : Addr → Nat × Nat} {p : PR} (W : Wd K H ds pl) (hy : ∀ d ∈ ds, SymsOk d) (h : PIn ds p) (h2 : p.s.sec ≠ 65522) : SqL K H p.c (zsL (zoF ds p)) ∧ (∀ z ∈ zoF ds p, SecAt K H z.1 z.2 (pl z.1).1 (pl z.1).2) ∧ (p.s.sec = 0 ∨ p.s.sec = 65521 ∨ p.s.sec < (zoF ds p).length) := by
  obtain ⟨d, h1, h3, h4⟩ := h
  have z : zoF ds p = d.zs := by
    unfold zoF
    rw [h1]
    rfl
  have md := List.mem_of_getElem? h1
  rw [z, ← h3]
  refine ⟨SqL.of (W.obj d md).secs, (W.obj d md).sec, ?_⟩
  rcases (hy d md _ h4).1 with k | k | k
  · exact .inr (.inr k)
  · exact .inr (.inl k)
  · exact absurd k h2
/-- names[..].whereabouts() -/
theorem ev_whr {E : XK} {H : Hp} {σ : L2.St} {te : TE} {ds : List OD} {nms : List (NR × PM)} {pl : Addr → Nat × Nat} {ad : Addr → Nat} {fp : Addr} {x : NR × PM} (N : NamesAt K H fp ds nms ad) (W : Wd K H ds pl) (hy : ∀ d ∈ ds, SymsOk d) (hx : x ∈ nms) (h : Ev te σ H (.ref x.1.a)) :
    Ev (tMeth (C_Name K) "whereabouts" (spWhr K) [] E te tNil) σ H (ov (whrN ds nms pl ad x.1.n)) := by
  have hf : nms.find? (fun y => decide (y.1.n = x.1.n)) = some x := by
    have nd : (nms.map fun y => y.1.n).Nodup := by
      have z := N.nd
      rw [List.map_map] at z
      exact z
    cases e : nms.find? (fun y => decide (y.1.n = x.1.n)) with
    | none =>
      have z := List.find?_eq_none.mp e x hx
      simp at z
    | some y =>
      have h1 := List.mem_of_find?_eq_some e
      have h2 : y.1.n = x.1.n := by simpa using List.find?_some e
      rw [Mx.nodup_inj (f := fun y : NR × PM => y.1.n) nd h1 hx h2]
  have hw : whrN ds nms pl ad x.1.n = whr (zoF ds) pl (ad x.1.a) x.2 := by
    unfold whrN
    rw [hf]
  rw [hw]
  exact ev_met h (hm_Name_whereabouts (N.nm x hx)) ea_nil fun H1 e Q q E => ⟨x.1.a, x.1.lp, x.2, ad x.1.a, zoF ds, pl, rfl, (N.nm x hx).mono e, fun p hp => by
    obtain ⟨h1, h2, h3, h4⟩ := N.sym x hx p hp
    exact ⟨h1.mono e, zo_ok (W.mono e) hy h2 h4⟩, q⟩
theorem ok_target_of (T : Tx K mg) : Cal P w K mg base 5 "target_of" (spTgt K) := by
  obtain ⟨fd, F⟩ := T.d_target_of
  refine cal_of F T.g_target_of sc_target_of (fun vs H Q E h => ?_) (fun _ _ _ _ _ _ us hl => match us, hl with | [_, _, _], _ => rfl) (fun cdv A outer s H vs Q E hr h => ⟨_, (pss_cons (ps_set (i := 3) sc_target_of.nd rfl (Or.inl rfl) (pe_ix (ix_listK (K := K)) (pe_fldK (K := K) (pv 0)) (pe_fldK (K := K) (pv 1)) (fun _ _ => rfl)))
      (pss_cons (ps_set (i := 4) sc_target_of.nd rfl (Or.inl rfl) (pe_ifExp (pt_cmpR op_eq (pe_fldK (K := K) (pv 3)) (pe_gi T.v_LOCAL) (nomark _)) (pe_cal (ok_address_of T) (hr.mono (by decide)) passL (pa_cons (pv 3) (pa_cons (pe_fldK (K := K) (pv 0)) pa_nil))) (pe_met0 (ok_Name_whereabouts T) (hr.mono (by decide)) passL (pe_dget (hu_of hr) (pv 2) (pe_fldK (K := K) (pv 3)) (fun _ _ => rfl)))))
      (pss_cons (ps_if (pt_cmpR op_isN (pv 4) pe_non (nomark _)) (pss_one (ps_raiseLow rfl T.low hr (takes_of rfl rfl rfl rfl) (pa_cons (pe_un un_neg pe_int) pa_nil))) pss_nil)
      (pss_one (ps_ret (pv 4)))))), ?_⟩)
  · obtain ⟨ra, c, fp, d, ds, nms, pl, ad, r, z, rfl, _⟩ := h
    rfl
  · obtain ⟨ra, c, fp, d, ds, nms, pl, ad, r, z, rfl, W, hd, hR, hz, hy, N, hnx, q1, q2⟩ := h
    have O0 := W.obj d hd
    obtain ⟨dt, ht⟩ := O0.told
    have hix : (d.zy.map fun z => V.ref z.1)[r.sym]? = some (.ref z.1) := by
      rw [List.getElem?_map, hz]
      rfl
    have mz : z ∈ d.zy := List.mem_of_getElem? hz
    refine q_asg (v := .ref z.1) (ev_ixL (ev_fl (ev_var rfl) (fl_Told_symbols T ht)) (SqL.of O0.syms) (ev_fl (ev_var rfl) (fl_Relocation_symbol T hR)) hix) fun H1 e1 => ?_
    have Y1 := (O0.sym z mz).mono e1
    have hv : tgt ds nms pl ad d z.2 = if z.2.bind = 0 then adr d.zs pl z.2 else whrN ds nms pl ad z.2.name := rfl
    refine q_asg (v := ov (tgt ds nms pl ad d z.2)) (ev_is (ev_ifs (b := decide (z.2.bind = 0)) (x := ov (adr d.zs pl z.2)) (y := ov (whrN ds nms pl ad z.2.name)) (et_eqN (ev_fl (ev_var rfl) (fl_Symbol_binding T Y1)) (ev_kN 0)) (fun hb => ?_) (fun hb => ?_)) ?_) fun H2 e2 => ?_
    · refine ev_cal (ea_cons (ev_var rfl) (ea_cons (ev_fl (ev_var rfl) (fl_Told_sections T (e1 _ _ ht))) ea_nil)) fun H2 e2 Q2 k2 E2 => ⟨z.1, d.secs, z.2, d.zs, pl, rfl, Y1.mono e2, SqL.of ((e1.trans e2) _ _ O0.secs), fun s m => (O0.sec s m).mono (e1.trans e2), ?_, k2⟩
      have hb' : z.2.bind = 0 := of_decide_eq_true hb
      obtain ⟨h1, h2⟩ := hy d hd z mz
      rcases h1 with k | k | k
      · exact .inr (.inr k)
      · exact .inr (.inl k)
      · exact absurd hb' (h2 k)
    · have hb' : z.2.bind ≠ 0 := of_decide_eq_false hb
      obtain ⟨x, mx, hx⟩ := hnx hb'
      obtain ⟨nt, fnt, hnt⟩ := nm_Symbol T Y1
      have N1 := N.mono e1
      rw [← hx]
      refine ev_whr N1 (W.mono e1) hy mx (ev_dgetT (k := kOf z.2.name) (ev_var rfl) (ev_fl (ev_var rfl) fnt) (.inl N1.dict) (by rw [kOf_kV]; exact hnt) ?_)
      rw [← hx]
      exact val_in N.nd (List.mem_map.mpr ⟨x, mx, rfl⟩)
    · rw [hv]
      by_cases hb : z.2.bind = 0
      · rw [if_pos (decide_eq_true hb), if_pos hb]
      · rw [if_neg (by rw [decide_eq_false hb]; decide), if_neg hb]
    generalize tgt ds nms pl ad d z.2 = o at q1 q2
    refine q_when (b := decide (ov o = .non)) (et_test (ev_op (ev_var rfl) ev_c fun H3 e3 Q3 k3 => ⟨rfl, k3 _ (Ex.refl _)⟩)) (fun c3 H3 e3 => ?_) (fun c3 H3 e3 => ?_)
    · rw [ov_non] at c3
      cases o with
      | some n => cases c3
      | none => exact ⟨_, rfl, _, rfl, fun dd hdd => q2 rfl dd _ upd_same⟩
    · rw [ov_non] at c3
      cases o with
      | none => cases c3
      | some n => exact s_ret (ev_var rfl) fun H4 e4 => q1 n rfl H4 (((e1.trans e2).trans e3).trans e4)
end
end Lk

set_option Elab.async false
set_option linter.all false
set_option maxRecDepth 100000
set_option maxHeartbeats 4000000
/-! # Relocations applied -/
namespace Lk
open PySem PySem.Spec PyProof.Rows L2 Evl He
def relW (ds : List OD) (nms : List (NR × PM)) (pl : Addr → Nat × Nat) (ad : Addr → Nat) (x : OD × Sn17.Rel) : Sn17.R (List Wr) := match x.1.zs[x.2.sec]?, x.1.zy[x.2.sym]? with
  | some z, some y => match tgt ds nms pl ad x.1 y.2 with
    | none => .error .kind
    | some v => if x.2.type = 0 then .ok [] else (Mx.valP x.2.type ((v : Int) + x.2.more) ((pl z.1).2 + x.2.offset)).map fun n => [(Sn17.classOf z.2, (pl z.1).1 + x.2.offset, Sn17.put (Mx.widthOf x.2.type) n)]
  | _, _ => .error .form
def rp (ds : List OD) : List (OD × Sn17.Rel) := ds.flatMap fun d => d.zr.map fun z => (d, z.2)
def RelsOk (nms : List (NR × PM)) (pl : Addr → Nat × Nat) (sz : Nat → Nat) (d : OD) : Prop := ∀ z ∈ d.zr, ∃ s y, d.zs[z.2.sec]? = some s ∧ d.zy[z.2.sym]? = some y ∧ (y.2.bind ≠ 0 → ∃ x ∈ nms, x.1.n = y.2.name) ∧ Sn17.classOf s.2 < 3 ∧ (pl s.1).1 + z.2.offset + Mx.widthOf z.2.type ≤ sz (Sn17.classOf s.2)
def spRelo (K : PySem.W.Frag) : Sp := fun vs H Q E => ∃ (p fp ip : Addr) (i : Nat → Addr) (H0 : Hp) (ds : List OD) (nms : List (NR × PM)) (pl : Addr → Nat × Nat) (ad : Addr → Nat) (m : Nat → List Nat) (sz : Nat → Nat), vs = [.ref p, .ref fp, .ref ip] ∧
  Ex H0 H ∧ (∀ c, c < 3 → H0 (i c) = none) ∧ SqL K H0 p (dsL ds) ∧ Wd K H0 ds pl ∧ (∀ d ∈ ds, SymsOk d) ∧ NamesAt K H0 fp ds nms ad ∧ ImAt H ip i m ∧ (∀ c, c < 3 → (m c).length = sz c) ∧ (∀ d ∈ ds, RelsOk nms pl sz d) ∧
  (∀ ws, (rp ds).mapM (relW ds nms pl ad) = .ok ws → ∀ H', Ex H0 H' → ImAt H' ip i (ws.flatten.foldl wr m) → Q .non H') ∧ ErrR K E ((rp ds).mapM (relW ds nms pl ad))
section
variable {P : Program} {w : World} {K : PySem.W.Frag} {mg : Str → Option Value} {base : Heap}
theorem q_asgX {E : XK} {sp : Sp} {σ : L2.St} {H : Hp} {at_ : TA} {vs : List V} {tz : TS} {D : Ends} {i : Nat} (h : EvA at_ σ H vs) (k : ∀ H1, Ex H H1 → sp vs H1 (fun y H2 => tz D (σ.set i (some y)) H2) E) :
    tSeq (tAsg (tCall sp [] E at_) (gName i)) tz D σ H := h H (Ex.refl H) _ fun H1 e1 => by
  rw [List.append_nil]
  exact k H1 e1
theorem q_par {σ : L2.St} {H : Hp} {ta : TA} {x y : V} {i j : Nat} {D : Ends} {tz : TS} (h : EvA ta σ H [x, y]) (k : ∀ H1, Ex H H1 → tz D ((σ.set i (some x)).set j (some y)) H1) : tSeq (tPar i j ta) tz D σ H := h H (Ex.refl H) _ fun H1 e1 => ⟨x, y, rfl, k H1 e1⟩
theorem relW_in {ds : List OD} {nms : List (NR × PM)} {pl : Addr → Nat × Nat} {ad : Addr → Nat} {sz : Nat → Nat} {d : OD} {z : Addr × Sn17.Rel} (h : RelsOk nms pl sz d) (hz : z ∈ d.zr) {l : List Wr} (hl : relW ds nms pl ad (d, z.2) = .ok l) : ∀ x ∈ l, WIn sz x := by
  obtain ⟨s, y, h1, h2, h3, h4, h5⟩ := h z hz
  unfold relW at hl
  rw [h1, h2] at hl
  dsimp only at hl
  cases hv : tgt ds nms pl ad d y.2 with
  | none =>
    rw [hv] at hl
    cases hl
  | some v =>
    rw [hv] at hl
    dsimp only at hl
    by_cases ht : z.2.type = 0
    · rw [if_pos ht] at hl
      cases hl
      exact fun x hx => nomatch hx
    · rw [if_neg ht] at hl
      cases hq : Mx.valP z.2.type ((v : Int) + z.2.more) ((pl s.1).2 + z.2.offset) with
      | error e =>
        rw [hq] at hl
        cases hl
      | ok n =>
        rw [hq] at hl
        cases hl
        intro x hx
        have e : x = (Sn17.classOf s.2, (pl s.1).1 + z.2.offset, Sn17.put (Mx.widthOf z.2.type) n) := by simpa using hx
        subst e
        refine ⟨h4, ?_⟩
        show _ + (Sn17.put _ _).length ≤ sz (Sn17.classOf s.2)
        rw [Mx.put_len]
        exact h5
theorem mapM_in {α : Type} {f : α → Sn17.R (List Wr)} {sz : Nat → Nat} : ∀ {l : List α} {ws : List (List Wr)}, l.mapM f = .ok ws → (∀ x ∈ l, ∀ v, f x = .ok v → ∀ y ∈ v, WIn sz y) → ∀ y ∈ ws.flatten, WIn sz y
  | [], ws, h, _ => by
    cases h
    exact fun y hy => nomatch hy
  | x :: r, ws, h, hf => by
    rw [List.mapM_cons] at h
    cases hx : f x with
    | error e =>
      rw [hx] at h
      cases h
    | ok v =>
      rw [hx] at h
      cases hr : r.mapM f with
      | error e =>
        rw [hr] at h
        cases h
      | ok vs =>
        rw [hr] at h
        cases h
        intro y hy
        rw [List.flatten_cons] at hy
        rcases List.mem_append.mp hy with m | m
        · exact hf x (List.mem_cons_self ..) v hx y m
        · exact mapM_in hr (fun z mz => hf z (List.mem_cons_of_mem _ mz)) y m
theorem set_at (l p : List Nat) (a n : Nat) (h : a + p.length < l.length) : (l.take a ++ p ++ l.drop (a + p.length)).set (a + p.length) n = l.take a ++ (p ++ [n]) ++ l.drop (a + p.length + 1) := by
  have e1 : (l.take a ++ p).length = a + p.length := by
    rw [List.length_append, List.length_take]
    omega
  rw [List.set_append, if_neg (by rw [e1]; omega), e1, Nat.sub_self, List.drop_eq_getElem_cons h, List.set_cons_zero]
  simp
theorem ok_relocate (T : Tx K mg) : Cal P w K mg base 6 "relocate" (spRelo K) := by
  obtain ⟨fd, F⟩ := T.d_relocate
  refine cal_of F T.g_relocate sc_relocate (fun vs H Q E h => ?_) (fun _ _ _ _ _ _ us hl => match us, hl with | [_, _, _], _ => rfl) (fun cdv A outer s H vs Q E hr h => ⟨_, (pss_one (ps_for (passes_of rfl) rfl (pi_listK (K := K) (pv 0)) (pg_name (i := 3) sc_relocate.nd rfl (Or.inl rfl)) (pss_one (ps_for (passes_of rfl) rfl (pi_listK (K := K) (pe_fldK (K := K) (pv 3))) (pg_name (i := 4) sc_relocate.nd rfl (Or.inl rfl)) (pss_cons (ps_set (i := 5) sc_relocate.nd rfl (Or.inl rfl) (pe_cal (ok_target_of T) (hr.mono (by decide)) (passes_call (takes_of rfl rfl rfl rfl) (fun _ _ _ _ h => h)) (pa_cons (pv 3) (pa_cons (pv 4) (pa_cons (pv 1) pa_nil)))))
      (pss_one (ps_if (pt_cmpR op_ne (pe_fldK (K := K) (pv 4)) pe_int (nomark _)) (pss_cons (ps_set (i := 6) sc_relocate.nd rfl (Or.inl rfl) (pe_fldK (K := K) (pv 4)))
      (pss_cons (ps_set (i := 7) sc_relocate.nd rfl (Or.inl rfl) (pe_op op_add (pe_fldK (K := K) (pv 6)) (pe_fldK (K := K) (pv 4))))
      (pss_cons (ps_set (i := 8) sc_relocate.nd rfl (Or.inl rfl) (pe_cal (ok_value_of T) (hr.mono (by decide)) (passes_call (takes_of rfl rfl rfl rfl) (fun _ _ _ _ h => h)) (pa_cons (pe_fldK (K := K) (pv 4)) (pa_cons (pe_op op_add (pv 5) (pe_fldK (K := K) (pv 4))) (pa_cons (pv 7) pa_nil)))))
      (pss_cons (ps_par (i := 9) (j := 10) (by rfl) sc_relocate.nd rfl rfl (by decide) rfl rfl (pa_cons (pe_ix (ix_listK (K := K)) (pv 2) (pe_met0 (ok_Section_class_of T) (hr.mono (by decide)) passL (pv 6)) (fun _ _ => rfl)) (pa_cons (pe_op op_add (pe_fldK (K := K) (pv 6)) (pe_fldK (K := K) (pv 4))) pa_nil)) (by rfl))
      (pss_one (ps_for (passes_of rfl) rfl (pi_range1 (by rfl) T.b_range (pa_cons (pe_met0 (ok_Relocation_width T) (hr.mono (by decide)) passL (pv 4)) pa_nil)) (pg_name (i := 11) sc_relocate.nd rfl (Or.inl rfl)) (pss_one (ps_asg (pe_op op_and (pe_op op_shr (pv 8) (pe_op op_mul pe_int (pv 11))) pe_int) (pg_sub (pv 9) (pe_op op_add (pv 10) (pv 11)) set_list))))))))) pss_nil))))))), ?_⟩)
  · obtain ⟨p, fp, ip, i, H0, ds, nms, pl, ad, m, sz, rfl, _⟩ := h
    rfl
  · obtain ⟨p, fp, ip, i, H0, ds, nms, pl, ad, m, sz, rfl, e0, hf, hL, W, hy, N, I, hsz, hR, q1, q2⟩ := h
    refine s_forM (L := ds) (f := fun d => V.ref d.told) (ev_var rfl) (ex_l e0 hL) (fun pre σ' H' => ∃ (v3 v4 v5 v6 v7 v8 v9 v10 v11 : Option V) (ws : List (List Wr)), σ' = [some (.ref p), some (.ref fp), some (.ref ip), v3, v4, v5, v6, v7, v8, v9, v10, v11] ∧ Ex H0 H' ∧
      (rp pre).mapM (relW ds nms pl ad) = .ok ws ∧ ImAt H' ip i (ws.flatten.foldl wr m)) (fun H1 e1 => ⟨none, none, none, none, none, none, none, none, none, [], rfl, e0.trans e1, rfl, I.mono e1⟩) (fun pre σ' H' pp => by
        obtain ⟨_, _, _, _, _, _, _, _, _, _, _, e, _⟩ := pp
        exact ex_l e hL) ?_ ?_
    rotate_left
    · rintro σ' H' ⟨v3, v4, v5, v6, v7, v8, v9, v10, v11, ws, rfl, e, hm, I'⟩
      exact q1 ws hm H' e I'
    rintro pre d post σ' H' hsp ⟨v3, v4, v5, v6, v7, v8, v9, v10, v11, ws, rfl, e, hm, I'⟩
    have hd : d ∈ ds := by rw [hsp]; simp
    have O0 := W.obj d hd
    obtain ⟨dt, ht⟩ := O0.told
    have hrp : rp ds = rp pre ++ (d.zr.map (fun z => (d, z.2)) ++ rp post) := by
      unfold rp
      rw [hsp, List.flatMap_append, List.flatMap_cons]
    have hrpd : rp (pre ++ [d]) = rp pre ++ d.zr.map (fun z => (d, z.2)) := by
      unfold rp
      rw [List.flatMap_append]
      simp
    rw [hrpd]
    refine s_forM (L := d.zr) (f := fun z => V.ref z.1) (ev_fl (ev_var rfl) (fl_Told_relocations T (e _ _ ht))) (SqL.of (e _ _ O0.rels)) (fun pre2 σ' H' => ∃ (v4 v5 v6 v7 v8 v9 v10 v11 : Option V) (ws : List (List Wr)), σ' = [some (.ref p), some (.ref fp), some (.ref ip), some (.ref d.told), v4, v5, v6, v7, v8, v9, v10, v11] ∧ Ex H0 H' ∧
      (rp pre ++ pre2.map (fun z => (d, z.2))).mapM (relW ds nms pl ad) = .ok ws ∧ ImAt H' ip i (ws.flatten.foldl wr m)) (fun H1 e1 => ⟨v4, v5, v6, v7, v8, v9, v10, v11, ws, rfl, e.trans e1, by rw [List.map_nil, List.append_nil]; exact hm, I'.mono e1⟩) (fun pre2 σ' H' pp => by
        obtain ⟨_, _, _, _, _, _, _, _, _, _, e, _⟩ := pp
        exact SqL.of (e _ _ O0.rels)) ?_ ?_
    rotate_left
    · rintro σ' H' ⟨v4, v5, v6, v7, v8, v9, v10, v11, ws, rfl, e, hm, I'⟩
      exact ⟨some (.ref d.told), v4, v5, v6, v7, v8, v9, v10, v11, ws, rfl, e, hm, I'⟩
    clear hm I' v4 v5 v6 v7 v8 v9 v10 v11 ws
    rintro pre2 ⟨ra, r⟩ post2 σ' H' hsp2 ⟨v4, v5, v6, v7, v8, v9, v10, v11, ws, rfl, e, hm, I'⟩
    have hz : (ra, r) ∈ d.zr := by rw [hsp2]; simp
    obtain ⟨c, s, hcs, hRa⟩ := O0.rel _ hz
    obtain ⟨s', y, h1, h2, h3, h4, h5⟩ := hR d hd _ hz
    rw [hcs] at h1
    cases h1
    dsimp only at h2 h4 h5 hcs hRa
    have hall : rp ds = (rp pre ++ pre2.map (fun z => (d, z.2))) ++ (d, r) :: (post2.map (fun z => (d, z.2)) ++ rp post) := by
      rw [hrp, hsp2, List.map_append, List.map_cons]
      simp
    have bad : ∀ {er : Sn17.Bad}, relW ds nms pl ad (d, r) = .error er → Err K E er.code := fun {er} he => q2 er (by
      rw [hall]
      exact Mx.mapM_err hm he)
    have hws : ∀ x ∈ ws.flatten, WIn sz x := mapM_in hm (fun x mx v hv => by
      rcases List.mem_append.mp mx with k | k
      · obtain ⟨d', md, k2⟩ := List.mem_flatMap.mp k
        obtain ⟨z', mz, rfl⟩ := List.mem_map.mp k2
        exact relW_in (hR d' (by rw [hsp]; simp [md])) mz hv
      · obtain ⟨z', mz, rfl⟩ := List.mem_map.mp k
        exact relW_in (hR d hd) (by rw [hsp2]; simp [mz]) hv)
    have hml := fold_len hws hsz
    have hstep : ∀ {l : List Wr}, relW ds nms pl ad (d, r) = .ok l → (rp pre ++ (pre2 ++ [(ra, r)]).map (fun z => (d, z.2))).mapM (relW ds nms pl ad) = .ok (ws ++ [l]) := fun {l} hl => by
      rw [List.map_append, ← List.append_assoc]
      exact Mx.mapM_snoc hm hl
    have hrw : relW ds nms pl ad (d, r) = match tgt ds nms pl ad d y.2 with
        | none => .error .kind
        | some v => if r.type = 0 then .ok [] else (Mx.valP r.type ((v : Int) + r.more) ((pl c).2 + r.offset)).map fun n => [(Sn17.classOf s, (pl c).1 + r.offset, Sn17.put (Mx.widthOf r.type) n)] := by
      unfold relW
      rw [hcs, h2]
    -- target
    refine q_asgX (ea_cons (ev_var rfl) (ea_cons (ev_var rfl) (ea_cons (ev_var rfl) ea_nil))) fun H1 e1 => ?_
    have e01 := e.trans e1
    refine ⟨ra, c, fp, d, ds, nms, pl, ad, r, y, rfl, W.mono e01, hd, hRa.mono e01, h2, hy, N.mono e01, h3, fun v hv H2 e2 => ?_, fun hv => ?_⟩
    rotate_left
    · refine bad (er := .kind) ?_
      rw [hrw, hv]
    rw [hv] at hrw
    dsimp only at hrw
    have e02 := e01.trans e2
    have R2 := hRa.mono e02
    have I2 := I'.mono (e1.trans e2)
    refine s_when (et_neN (ev_fl (ev_var rfl) (fl_Relocation_kind T R2)) (ev_kN 0)) (fun c1 H3 e3 => ?_) (fun c1 H3 e3 => ?_)
    rotate_left
    · have d1 : r.type = 0 := by simpa using c1
      rw [if_pos d1] at hrw
      refine ⟨some (.ref ra), some (nv v), v6, v7, v8, v9, v10, v11, ws ++ [[]], rfl, e02.trans e3, hstep hrw, ?_⟩
      rw [List.flatten_append, List.flatten_cons, List.flatten_nil, List.nil_append, List.append_nil]
      exact I2.mono e3
    have d1 : ¬ r.type = 0 := by simpa using c1
    rw [if_neg d1] at hrw
    have e03 := e02.trans e3
    -- section, place
    refine q_asg (v := .ref c) (ev_fl (ev_var rfl) (fl_Relocation_section T (R2.mono e3))) fun H4 e4 => ?_
    have e04 := e03.trans e4
    have S4 : SecAt K H4 c s (pl c).1 (pl c).2 := (O0.sec _ (List.mem_of_getElem? hcs)).mono e04
    refine q_asg (v := nv ((pl c).2 + r.offset)) (ev_addN (ev_fl (ev_var rfl) (fl_Section_address T S4)) (ev_fl (ev_var rfl) (fl_Relocation_offset T (hRa.mono e04)))) fun H5 e5 => ?_
    have e05 := e04.trans e5
    -- value
    refine q_asgX (vs := [nv r.type, .int ((v : Int) + r.more), nv ((pl c).2 + r.offset)]) (ea_cons (ev_fl (ev_var rfl) (fl_Relocation_kind T (hRa.mono e05))) (ea_cons (ev_I0 (ev_var rfl) (ev_fl (ev_var rfl) (fl_Relocation_addend T (hRa.mono e05))) rfl) (ea_cons (ev_var rfl) ea_nil))) fun H6 e6 => ?_
    refine ⟨r.type, (pl c).2 + r.offset, (v : Int) + r.more, rfl, fun n hn H7 e7 => ?_, fun er he => bad ?_⟩
    rotate_left
    · rw [hrw, he]
      rfl
    rw [hn] at hrw
    have e07 := (e05.trans e6).trans e7
    have S7 := (O0.sec _ (List.mem_of_getElem? hcs)).mono e07
    have R7 := hRa.mono e07
    have I7 := I2.mono ((((e3.trans e4).trans e5).trans e6).trans e7)
    -- image, at
    refine q_par (x := .ref (i (Sn17.classOf s))) (y := nv ((pl c).1 + r.offset)) (ea_cons (ev_ixL (ev_var rfl) (SqL.of I7.top) (ev_class S7 (ev_var rfl)) (im_ix i h4)) (ea_cons (ev_addN (ev_fl (ev_var rfl) (fl_Section_place T S7)) (ev_fl (ev_var rfl) (fl_Relocation_offset T R7))) ea_nil)) fun H8 e8 => ?_
    have e08 := e07.trans e8
    have I8 := I7.mono e8
    generalize hm0 : ws.flatten.foldl wr m = m0 at I8 hml
    generalize hcc : Sn17.classOf s = cc at I8 hrw h4 h5 hml
    generalize hat : (pl c).1 + r.offset = at_ at h5 hrw
    generalize hww : Mx.widthOf r.type = ww at h5 hrw
    have hw8 : ww ≤ 8 := by
      rw [← hww]
      unfold Mx.widthOf
      split
      · omega
      · split <;> omega
    refine s_forR1 (n := (ww : Int)) (ea_cons (ev_is (ev_width (hRa.mono e08) (ev_var rfl)) (by rw [hww])) ea_nil) ⟨by omega, by omega⟩ (fun j σ' H' => ∃ v11 : Option V, σ' = [some (.ref p), some (.ref fp), some (.ref ip), some (.ref d.told), some (.ref ra), some (nv v), some (.ref c), some (nv ((pl c).2 + r.offset)), some (nv n), some (.ref (i cc)), some (nv at_), v11] ∧ Ex H0 H' ∧
      ImAt H' ip i (wr m0 (cc, at_, Sn17.put j n))) (fun H9 e9 => ⟨v11, rfl, e08.trans e9, ?_⟩) ?_ ?_
    · have z : wr m0 (cc, at_, Sn17.put 0 n) = m0 := by
        funext c'
        unfold wr
        by_cases k : c' = cc
        · rw [if_pos k]
          show (m0 c').take at_ ++ [] ++ (m0 c').drop (at_ + 0) = _
          rw [List.append_nil, Nat.add_zero, List.take_append_drop]
        · rw [if_neg k]
      rw [z]
      exact I8.mono e9
    · rintro j σ' H9 hj ⟨v11', rfl, e9, I9⟩
      have hj' : j < ww := by omega
      have hmc := hml cc h4
      have hcur : wr m0 (cc, at_, Sn17.put j n) cc = (m0 cc).take at_ ++ Sn17.put j n ++ (m0 cc).drop (at_ + (Sn17.put j n).length) := by
        unfold wr
        rw [if_pos rfl]
      have hpl : (Sn17.put j n).length = j := Mx.put_len j n
      refine s_setL (l := i cc) (j := at_ + j) (v := nv (n / 256 ^ j % 256)) (I9.im cc h4) (ev_I0 (z := nv (n / 256 ^ j % 256)) (ev_shrN (ev_var rfl) (ev_mulN (ev_kN 8) (ev_var rfl) (.inl (by decide)))) (ev_kN 255) (by
        show V.int (Builtin.bitAnd _ _) = _
        rw [bitAnd_nat, Mx.byte_at])) (ev_var rfl) (ev_addN (ev_var rfl) (ev_var rfl)) (by
        rw [iv_len, hcur, List.length_append, List.length_append, List.length_take, List.length_drop, hpl, hmc]
        omega) fun Ha ea => ⟨some (nv j), rfl, Ex.mut (e9.trans ea) (hf cc h4), ?_⟩
      have Ia := (I9.mono ea).set (m' := wr m0 (cc, at_, Sn17.put (j + 1) n)) h4 (fun c' k => by
        unfold wr
        rw [if_neg k, if_neg k])
      have hnew : wr m0 (cc, at_, Sn17.put (j + 1) n) cc = (wr m0 (cc, at_, Sn17.put j n) cc).set (at_ + j) (n / 256 ^ j % 256) := by
        rw [hcur]
        have z := set_at (m0 cc) (Sn17.put j n) at_ (n / 256 ^ j % 256) (by rw [hpl, hmc]; omega)
        rw [hpl] at z ⊢
        rw [z]
        unfold wr
        rw [if_pos rfl]
        show _ ++ Sn17.put (j + 1) n ++ (m0 cc).drop (at_ + (Sn17.put (j + 1) n).length) = _
        rw [Mx.put_len, Mx.put_succ]
        rfl
      rw [hnew, ← iv_set] at Ia
      exact Ia
    · rintro σ' H9 ⟨v11', rfl, e9, I9⟩
      refine ⟨some (.ref ra), some (nv v), some (.ref c), some (nv ((pl c).2 + r.offset)), some (nv n), some (.ref (i cc)), some (nv at_), v11', ws ++ [[(cc, at_, Sn17.put ww n)]], rfl, e9, hstep hrw, ?_⟩
      rw [List.flatten_append, List.flatten_cons, List.flatten_nil, List.append_nil, List.foldl_append, hm0]
      exact I9
end
end Lk

/-! # Plain law: the file -/
namespace Mx
open Sn17
theorem up_ge {n a : Nat} (h : 1 ≤ a) : n ≤ up n a := by
  unfold up
  have h1 := Nat.div_add_mod (n + a - 1) a
  have h2 := Nat.mod_lt (n + a - 1) h
  have h3 : a * ((n + a - 1) / a) = (n + a - 1) / a * a := Nat.mul_comm ..
  omega
theorem up_lt {n a : Nat} (h : 1 ≤ a) : up n a < n + a := by
  unfold up
  have h1 := Nat.div_mul_le_self (n + a - 1) a
  omega
def hdrA (start : Nat) : Bytes := [127, 69, 76, 70, 2, 1, 1] ++ List.replicate 9 0 ++ put 2 2 ++ put 2 62 ++ put 4 1 ++ put 8 start ++ put 8 64
def hdrB (start many : Nat) : Bytes := hdrA start ++ put 8 0 ++ put 4 0 ++ put 2 64 ++ put 2 56 ++ put 2 many
def hdrOf (start many : Nat) : Bytes := hdrB start many ++ put 2 64 ++ put 4 0
def phA (rights place begin_ : Nat) : Bytes := put 4 1 ++ put 4 rights ++ put 8 place ++ put 8 begin_ ++ put 8 begin_
def phOf (rights place begin_ file size : Nat) : Bytes := phA rights place begin_ ++ put 8 file ++ put 8 size ++ put 8 4096
def pad (l : Bytes) : Bytes := l ++ List.replicate (up l.length 4096 - l.length) 0
def rightsOf (c : Nat) : Nat := [5, 4, 6, 6].getD c 0
def phC (b : Nat) (bg sz : Nat → Nat) (c : Nat) : Bytes := phOf (rightsOf c) (if c = 3 then 0 else 4096 + bg c - b) (bg c) (if c = 3 then 0 else sz c) (sz c)
def nums (sz : Nat → Nat) : List Nat := (List.range 4).filter fun c => decide (0 < sz c)
def fileOf (b start : Nat) (bg sz : Nat → Nat) (m : Nat → Bytes) : Bytes := pad (hdrOf start (nums sz).length ++ (nums sz).flatMap (phC b bg sz)) ++ pad (m 0) ++ pad (m 1) ++ pad (m 2)
theorem hdrOf_len (s n : Nat) : (hdrOf s n).length = 64 := by
  unfold hdrOf hdrB hdrA
  simp [put_len]
theorem phOf_len (a b c d e : Nat) : (phOf a b c d e).length = 56 := by
  unfold phOf phA
  simp [put_len]
theorem pad_len (l : Bytes) : (pad l).length = up l.length 4096 := by
  unfold pad
  have := up_ge (n := l.length) (a := 4096) (by decide)
  rw [List.length_append, List.length_replicate]
  omega
theorem nums_len (sz : Nat → Nat) : (nums sz).length ≤ 4 := by
  unfold nums
  refine Nat.le_trans (List.length_filter_le ..) ?_
  rw [List.length_range]
  decide
end Mx

set_option Elab.async false
set_option linter.all false
set_option maxRecDepth 100000
set_option maxHeartbeats 4000000
/-! # The executable file -/
namespace Lk
open PySem PySem.Spec PyProof.Rows L2 Evl He
def spStored : Sp := fun vs H Q _ => ∃ n k : Nat, vs = [nv n, nv k] ∧ k ≤ 1000 ∧ RetL (iv (Sn17.put k n)) H Q
section
variable {P : Program} {w : World} {K : PySem.W.Frag} {mg : Str → Option Value} {base : Heap}
theorem ok_stored (T : Tx K mg) : Cal P w K mg base 1 "stored" (spStored) := by
  obtain ⟨fd, F⟩ := T.d_stored
  refine cal_of F T.g_stored sc_stored (fun vs H Q E h => ?_) (fun _ _ _ _ _ _ us hl => match us, hl with | [_, _], _ => rfl) (fun cdv A outer s H vs Q E hr h => ⟨_, (pss_one (ps_ret (pe_lc (own := [("at", 2)]) (g := gName 2) rfl sc_stored.nd (pi_range1 (by rfl) T.b_range (pa_cons (pv 1) pa_nil)) (blkOk_by (own := [("at", 2)]) (N := ["number", "many", "at"]) (sc := defScope s_stored) (by decide +kernel)) (fun _ _ _ _ _ => pg_name (i := 2) sc_stored.nd rfl (Or.inl rfl)) (fun _ _ _ _ _ => pts_nil) (fun _ _ _ _ _ => (pe_op op_and (pe_op op_shr (pv 0) (pe_op op_mul pe_int (pv 2))) pe_int))))), ?_⟩)
  · obtain ⟨n, k, rfl, _⟩ := h
    rfl
  · obtain ⟨n, k, rfl, hk, q⟩ := h
    have z : iv (Sn17.put k n) = given ((k : Int)).toNat (fun _ => true) (fun j => nv (n / 256 ^ j % 256)) := by
      unfold given Sn17.put iv
      rw [Int.toNat_natCast, List.filter_eq_self.mpr (fun _ _ => rfl), List.map_map]
      rfl
    rw [z] at q
    exact s_retL (el_lcR1 (n := (k : Int)) (fun _ => true) (fun j => nv (n / 256 ^ j % 256)) (ea_cons (ev_var rfl) ea_nil) ⟨by omega, by omega⟩ (fun _ => rfl) (fun _ _ _ _ => et_yes) (fun j H1 e1 hj _ => ev_I0 (z := nv (n / 256 ^ j % 256)) (ev_shrN (ev_var rfl) (ev_mulN (ev_kN 8) (ev_var rfl) (.inl (by decide)))) (ev_kN 255) (by
      show V.int (Builtin.bitAnd _ _) = _
      rw [bitAnd_nat, Mx.byte_at]))) fun p H1 hp e1 h1 => q p H1 hp e1 h1
theorem el_stored {E : XK} {H : Hp} {σ : L2.St} {ta tb : TE} {n : Nat} (k : Nat) (h1 : Ev ta σ H (nv n)) (h2 : Ev tb σ H (nv k)) (hk : k ≤ 1000 := by decide) : EvL (tCall spStored [] E (tCons ta (tCons tb tNil))) σ H (iv (Sn17.put k n)) :=
  el_call (ea_cons h1 (ea_cons h2 ea_nil)) fun H1 e Q q E => ⟨n, k, rfl, hk, q⟩
theorem el_catV {H : Hp} {σ : L2.St} {ta tb : TE} {p : Addr} {xs ys : List Nat} (h1 : Ev ta σ H (.ref p)) (hx : SqL K H p (iv xs)) (h2 : EvL tb σ H (iv ys)) (hz : xs.length + ys.length ≤ 16777216) : EvL (tOp (rCatK K) ta tb) σ H (iv (xs ++ ys)) := fun H1 e Q q =>
  h1 H1 e _ fun H2 e2 => h2 H2 (e.trans e2) _ fun r H3 hr e3 h3 => ⟨p, r, _, _, rfl, rfl, ex_l ((e.trans e2).trans e3) hx, SqL.of h3, by rw [iv_len, iv_len, sizeLine_eq]; exact hz, fun s hs => by
    rw [← iv_append]
    exact q s _ (fresh_back (e2.trans e3) hs) ((e2.trans e3).trans (Ex.new hs)) upd_same⟩
theorem el_catN {H : Hp} {σ : L2.St} {ta tb : TE} {xs ys : List Nat} (h1 : EvL ta σ H (iv xs)) (h2 : EvL tb σ H (iv ys)) (hz : xs.length + ys.length ≤ 16777216) : EvL (tOp (rCatK K) ta tb) σ H (iv (xs ++ ys)) := fun H1 e Q q =>
  h1 H1 e _ fun p H2 hp e2 hx => h2 H2 (e.trans e2) _ fun r H3 hr e3 h3 => ⟨p, r, _, _, rfl, rfl, SqL.of (e3 _ _ hx), SqL.of h3, by rw [iv_len, iv_len, sizeLine_eq]; exact hz, fun s hs => by
    rw [← iv_append]
    exact q s _ (fresh_back (e2.trans e3) hs) ((e2.trans e3).trans (Ex.new hs)) upd_same⟩
theorem el_zeros {H : Hp} {σ : L2.St} {tb : TE} {n : Nat} (h : Ev tb σ H (nv n)) (hn : n ≤ 16777216) : EvL (tOp rRep (tLst (tCons (tC (.int 0)) tNil)) tb) σ H (iv (List.replicate n 0)) := by
  have z : iv (List.replicate n 0) = (List.replicate n [nv 0]).flatten := by
    clear h hn
    induction n with
    | zero => rfl
    | succ n ih =>
      rw [List.replicate_succ, List.replicate_succ, List.flatten_cons, ← ih]
      rfl
  rw [z]
  exact el_rep (xs := [nv 0]) (k := n) (el_lst (ea_cons (ev_kN 0) ea_nil) (show 1 ≤ 100000 by decide)) (fun H1 e1 => h.mono e1) (by show 1 * n ≤ _; omega) (by omega)
def spHdr : Sp := fun vs H Q _ => ∃ s n : Nat, vs = [nv s, nv n] ∧ RetL (iv (Mx.hdrOf s n)) H Q
theorem ok_header_of (T : Tx K mg) : Cal P w K mg base 2 "header_of" (spHdr) := by
  obtain ⟨fd, F⟩ := T.d_header_of
  refine cal_of F T.g_header_of sc_header_of (fun vs H Q E h => ?_) (fun _ _ _ _ _ _ us hl => match us, hl with | [_, _], _ => rfl) (fun cdv A outer s H vs Q E hr h => ⟨_, (pss_cons (ps_set (i := 2) sc_header_of.nd rfl (Or.inl rfl) (pe_op (op_catKK (K := K)) (pe_op (op_catKK (K := K)) (pe_op (op_catKK (K := K)) (pe_op (op_catKK (K := K)) (pe_op (op_catKK (K := K)) (pe_op (op_catKK (K := K)) (pe_gr T.g_MAGIC) (pe_op op_rep (pe_lst (pa_cons pe_int pa_nil)) pe_int)) (pe_cal (ok_stored T) (hr.mono (by decide)) passL (pa_cons pe_int (pa_cons pe_int pa_nil)))) (pe_cal (ok_stored T) (hr.mono (by decide)) passL (pa_cons pe_int (pa_cons pe_int pa_nil)))) (pe_cal (ok_stored T) (hr.mono (by decide)) passL (pa_cons pe_int (pa_cons pe_int pa_nil)))) (pe_cal (ok_stored T) (hr.mono (by decide)) passL (pa_cons (pv 0) (pa_cons pe_int pa_nil)))) (pe_cal (ok_stored T) (hr.mono (by decide)) passL (pa_cons pe_int (pa_cons pe_int pa_nil)))))
      (pss_cons (ps_set (i := 2) sc_header_of.nd rfl (Or.inl rfl) (pe_op (op_catKK (K := K)) (pe_op (op_catKK (K := K)) (pe_op (op_catKK (K := K)) (pe_op (op_catKK (K := K)) (pe_op (op_catKK (K := K)) (pv 2) (pe_cal (ok_stored T) (hr.mono (by decide)) passL (pa_cons pe_int (pa_cons pe_int pa_nil)))) (pe_cal (ok_stored T) (hr.mono (by decide)) passL (pa_cons pe_int (pa_cons pe_int pa_nil)))) (pe_cal (ok_stored T) (hr.mono (by decide)) passL (pa_cons pe_int (pa_cons pe_int pa_nil)))) (pe_cal (ok_stored T) (hr.mono (by decide)) passL (pa_cons pe_int (pa_cons pe_int pa_nil)))) (pe_cal (ok_stored T) (hr.mono (by decide)) passL (pa_cons (pv 1) (pa_cons pe_int pa_nil)))))
      (pss_one (ps_ret (pe_op (op_catKK (K := K)) (pe_op (op_catKK (K := K)) (pv 2) (pe_cal (ok_stored T) (hr.mono (by decide)) passL (pa_cons pe_int (pa_cons pe_int pa_nil)))) (pe_cal (ok_stored T) (hr.mono (by decide)) passL (pa_cons pe_int (pa_cons pe_int pa_nil)))))))), ?_⟩)
  · obtain ⟨s, n, rfl, _⟩ := h
    rfl
  · obtain ⟨s, n, rfl, q⟩ := h
    refine q_asgL (xs := iv (Mx.hdrA s)) (el_catN (el_catN (el_catN (el_catN (el_catN (el_catV ev_c (T.t_MAGIC H) (el_zeros (n := 9) (ev_kN 9) (by decide)) (by simp)) (el_stored 2 (ev_kN 2) (ev_kN 2)) (by simp [Mx.put_len])) (el_stored 2 (ev_kN 62) (ev_kN 2)) (by simp [Mx.put_len])) (el_stored 4 (ev_kN 1) (ev_kN 4)) (by simp [Mx.put_len])) (el_stored 8 (ev_var rfl) (ev_kN 8)) (by simp [Mx.put_len])) (el_stored 8 (ev_kN 64) (ev_kN 8)) (by simp [Mx.put_len])) fun p1 H1 np1 e1 h1 => ?_
    have l1 : (Mx.hdrA s).length = 40 := by
      unfold Mx.hdrA
      simp [Mx.put_len]
    refine q_asgL (xs := iv (Mx.hdrB s n)) (el_catN (el_catN (el_catN (el_catN (el_catV (ev_var rfl) (SqL.of h1) (el_stored 8 (ev_kN 0) (ev_kN 8)) (by simp [Mx.put_len, l1])) (el_stored 4 (ev_kN 0) (ev_kN 4)) (by simp [Mx.put_len, l1])) (el_stored 2 (ev_kN 64) (ev_kN 2)) (by simp [Mx.put_len, l1])) (el_stored 2 (ev_kN 56) (ev_kN 2)) (by simp [Mx.put_len, l1])) (el_stored 2 (ev_var rfl) (ev_kN 2)) (by simp [Mx.put_len, l1])) fun p2 H2 np2 e2 h2 => ?_
    have l2 : (Mx.hdrB s n).length = 58 := by
      unfold Mx.hdrB
      simp [Mx.put_len, l1]
    exact s_retL (xs := iv (Mx.hdrOf s n)) (el_catN (el_catV (ev_var rfl) (SqL.of h2) (el_stored 2 (ev_kN 64) (ev_kN 2)) (by simp [Mx.put_len, l2])) (el_stored 4 (ev_kN 0) (ev_kN 4)) (by simp [Mx.put_len, l2])) fun p3 H3 np3 e3 h3 => q p3 H3 (fresh_back (e1.trans e2) np3) ((e1.trans e2).trans e3) h3
def spPh (K : PySem.W.Frag) : Sp := fun vs H Q _ => ∃ (la sp bp b c : Nat) (bg sz : Nat → Nat), vs = [.ref la, nv c] ∧ LyAt K H la b sp bp ∧ H sp = some (.lst (iv ((List.range 4).map sz))) ∧ H bp = some (.lst (iv ((List.range 4).map bg))) ∧ c < 4 ∧ b ≤ bg c ∧ RetL (iv (Mx.phC b bg sz c)) H Q
theorem ok_program_header (T : Tx K mg) : Cal P w K mg base 2 "program_header" (spPh K) := by
  obtain ⟨fd, F⟩ := T.d_program_header
  refine cal_of F T.g_program_header sc_program_header (fun vs H Q E h => ?_) (fun _ _ _ _ _ _ us hl => match us, hl with | [_, _], _ => rfl) (fun cdv A outer s H vs Q E hr h => ⟨_, (pss_cons (ps_par (i := 2) (j := 3) (by rfl) sc_program_header.nd rfl rfl (by decide) rfl rfl (pa_cons (pe_ix (ix_listK (K := K)) (pe_fldK (K := K) (pv 0)) (pv 1) (fun _ _ => rfl)) (pa_cons (pe_ix (ix_listK (K := K)) (pe_fldK (K := K) (pv 0)) (pv 1) (fun _ _ => rfl)) pa_nil)) (by rfl))
      (pss_cons (ps_set (i := 4) sc_program_header.nd rfl (Or.inl rfl) (pe_ifExp (pt_cmpR op_eq (pv 1) pe_int (nomark _)) pe_int (pe_op op_sub (pe_op op_add (pe_gi T.v_PAGE) (pv 2)) (pe_fldK (K := K) (pv 0)))))
      (pss_cons (ps_set (i := 5) sc_program_header.nd rfl (Or.inl rfl) (pe_op (op_catKK (K := K)) (pe_op (op_catKK (K := K)) (pe_op (op_catKK (K := K)) (pe_op (op_catKK (K := K)) (pe_cal (ok_stored T) (hr.mono (by decide)) passL (pa_cons pe_int (pa_cons pe_int pa_nil))) (pe_cal (ok_stored T) (hr.mono (by decide)) passL (pa_cons (pe_ix (ix_tupK (K := K)) (pe_gr T.g_RIGHTS) (pv 1) (fun _ _ => rfl)) (pa_cons pe_int pa_nil)))) (pe_cal (ok_stored T) (hr.mono (by decide)) passL (pa_cons (pv 4) (pa_cons pe_int pa_nil)))) (pe_cal (ok_stored T) (hr.mono (by decide)) passL (pa_cons (pv 2) (pa_cons pe_int pa_nil)))) (pe_cal (ok_stored T) (hr.mono (by decide)) passL (pa_cons (pv 2) (pa_cons pe_int pa_nil)))))
      (pss_one (ps_ret (pe_op (op_catKK (K := K)) (pe_op (op_catKK (K := K)) (pe_op (op_catKK (K := K)) (pv 5) (pe_cal (ok_stored T) (hr.mono (by decide)) passL (pa_cons (pe_ifExp (pt_cmpR op_eq (pv 1) pe_int (nomark _)) pe_int (pv 3)) (pa_cons pe_int pa_nil)))) (pe_cal (ok_stored T) (hr.mono (by decide)) passL (pa_cons (pv 3) (pa_cons pe_int pa_nil)))) (pe_cal (ok_stored T) (hr.mono (by decide)) passL (pa_cons (pe_gi T.v_PAGE) (pa_cons pe_int pa_nil))))))))), ?_⟩)
  · obtain ⟨la, sp, bp, b, c, bg, sz, rfl, _⟩ := h
    rfl
  · obtain ⟨la, sp, bp, b, c, bg, sz, rfl, hL, hs, hb, hc, hbb, q⟩ := h
    refine q_par (x := nv (bg c)) (y := nv (sz c)) (ea_cons (ev_ixN (ev_fl (ev_var rfl) (fl_Layout_begins T hL)) (SqL.of hb) (ev_var rfl) (range4_at _ hc)) (ea_cons (ev_ixN (ev_fl (ev_var rfl) (fl_Layout_sizes T hL)) (SqL.of hs) (ev_var rfl) (range4_at _ hc)) ea_nil)) fun H1 e1 => ?_
    refine q_asg (v := nv (if c = 3 then 0 else 4096 + bg c - b)) (ev_is (ev_ifs (b := decide (c = 3)) (x := nv 0) (y := nv (4096 + bg c - b)) (et_eqN (ev_var rfl) (ev_kN 3)) (fun _ => ev_kN 0) (fun _ => ev_subN (ev_addN (ev_kN 4096) (ev_var rfl)) (ev_fl (ev_var rfl) (fl_Layout_address T (hL.mono e1))) (by omega))) ?_) fun H2 e2 => ?_
    · by_cases h3 : c = 3
      · rw [if_pos (decide_eq_true h3), if_pos h3]
      · rw [if_neg (by rw [decide_eq_false h3]; decide), if_neg h3]
    have hri : (iv [5, 4, 6, 6])[c]? = some (nv (Mx.rightsOf c)) := by
      have hcase : c = 0 ∨ c = 1 ∨ c = 2 ∨ c = 3 := by omega
      rcases hcase with e | e | e | e <;> subst e <;> rfl
    generalize hpl : (if c = 3 then 0 else 4096 + bg c - b) = place
    refine q_asgL (xs := iv (Mx.phA (Mx.rightsOf c) place (bg c))) (el_catN (el_catN (el_catN (el_catN (el_stored 4 (ev_kN 1) (ev_kN 4)) (el_stored 4 (ev_ixT ev_c (T.t_RIGHTS H2) (ev_var rfl) hri) (ev_kN 4)) (by simp [Mx.put_len])) (el_stored 8 (ev_var rfl) (ev_kN 8)) (by simp [Mx.put_len])) (el_stored 8 (ev_var rfl) (ev_kN 8)) (by simp [Mx.put_len])) (el_stored 8 (ev_var rfl) (ev_kN 8)) (by simp [Mx.put_len])) fun p3 H3 np3 e3 h3 => ?_
    have l3 : (Mx.phA (Mx.rightsOf c) place (bg c)).length = 32 := by
      unfold Mx.phA
      simp [Mx.put_len]
    refine s_retL (xs := iv (Mx.phC b bg sz c)) ?_ fun p4 H4 np4 e4 h4 => q p4 H4 (fresh_back ((e1.trans e2).trans e3) np4) (((e1.trans e2).trans e3).trans e4) h4
    unfold Mx.phC
    rw [hpl]
    refine el_catN (el_catN (el_catV (ev_var rfl) (SqL.of h3) (el_stored 8 (n := if c = 3 then 0 else sz c) (ev_is (ev_ifs (b := decide (c = 3)) (x := nv 0) (y := nv (sz c)) (et_eqN (ev_var rfl) (ev_kN 3)) (fun _ => ev_kN 0) (fun _ => ev_var rfl)) ?_) (ev_kN 8)) (by simp [Mx.put_len, l3])) (el_stored 8 (ev_var rfl) (ev_kN 8)) (by simp [Mx.put_len, l3])) (el_stored 8 (ev_kN 4096) (ev_kN 8)) (by simp [Mx.put_len, l3])
    by_cases h3 : c = 3
    · rw [if_pos (decide_eq_true h3), if_pos h3]
    · rw [if_neg (by rw [decide_eq_false h3]; decide), if_neg h3]
def spFilled (K : PySem.W.Frag) : Sp := fun vs H Q _ => ∃ (p : Addr) (l : List Nat), vs = [.ref p] ∧ SqL K H p (iv l) ∧ l.length ≤ 16000000 ∧ RetL (iv (Mx.pad l)) H Q
theorem ok_filled (T : Tx K mg) : Cal P w K mg base 2 "filled" (spFilled K) := by
  obtain ⟨fd, F⟩ := T.d_filled
  refine cal_of F T.g_filled sc_filled (fun vs H Q E h => ?_) (fun _ _ _ _ _ _ us hl => match us, hl with | [_], _ => rfl) (fun cdv A outer s H vs Q E hr h => ⟨_, (pss_one (ps_ret (pe_op (op_catKK (K := K)) (pv 0) (pe_op op_rep (pe_lst (pa_cons pe_int pa_nil)) (pe_op op_sub (pe_cal (ok_raised T) (hr.mono (by decide)) passL (pa_cons (pe_callB (call_lenK (K := K)) (by rfl) T.b_len PySem.boot_len (pa_cons (pv 0) pa_nil)) (pa_cons (pe_gi T.v_PAGE) pa_nil))) (pe_callB (call_lenK (K := K)) (by rfl) T.b_len PySem.boot_len (pa_cons (pv 0) pa_nil))))))), ?_⟩)
  · obtain ⟨p, l, rfl, _⟩ := h
    rfl
  · obtain ⟨p, l, rfl, hL, hl, q⟩ := h
    have h1 := Mx.up_ge (n := l.length) (a := 4096) (by decide)
    have h2 := Mx.up_lt (n := l.length) (a := 4096) (by decide)
    exact s_retL (xs := iv (Mx.pad l)) (el_catV (ev_var rfl) hL (el_zeros (n := Sn17.up l.length 4096 - l.length) (ev_subN (ev_up (ev_lenN' (ev_var rfl) hL) (ev_kN 4096) (by decide) (by decide)) (ev_lenN' (ev_var rfl) hL) h1) (by omega)) (by rw [List.length_replicate]; omega)) fun p1 H1 np e1 h => q p1 H1 np e1 h
theorem el_filled {E : XK} {H : Hp} {σ : L2.St} {ta : TE} {p : Addr} {l : List Nat} (h1 : Ev ta σ H (.ref p)) (hL : SqL K H p (iv l)) (hl : l.length ≤ 16000000) : EvL (tCall (spFilled K) [] E (tCons ta tNil)) σ H (iv (Mx.pad l)) :=
  el_call (ea_cons h1 ea_nil) fun H1 e Q q E => ⟨p, l, rfl, ex_l e hL, hl, q⟩
def spFile (K : PySem.W.Frag) : Sp := fun vs H Q _ => ∃ (la sp bp ip b s : Nat) (i : Nat → Addr) (m : Nat → List Nat) (bg sz : Nat → Nat), vs = [.ref la, .ref ip, nv s] ∧ LyAt K H la b sp bp ∧ H sp = some (.lst (iv ((List.range 4).map sz))) ∧ H bp = some (.lst (iv ((List.range 4).map bg))) ∧ (∀ c, c < 4 → b ≤ bg c) ∧ ImAt H ip i m ∧
  (∀ c, c < 3 → (m c).length ≤ 4194304) ∧ RetL (iv (Mx.fileOf b s bg sz m)) H Q
theorem ok_file_of (T : Tx K mg) : Cal P w K mg base 3 "file_of" (spFile K) := by
  obtain ⟨fd, F⟩ := T.d_file_of
  refine cal_of F T.g_file_of sc_file_of (fun vs H Q E h => ?_) (fun _ _ _ _ _ _ us hl => match us, hl with | [_, _, _], _ => rfl) (fun cdv A outer s H vs Q E hr h => ⟨_, (pss_cons (ps_setLc (i := 4) (own := [("number", 3)]) (g := gName 3) rfl sc_file_of.nd rfl rfl (sw_true rfl rfl rfl (by decide +kernel)) (pi_range1 (by rfl) T.b_range (pa_cons pe_int pa_nil)) (blkOk_by (own := [("number", 3)]) (N := ["layout", "images", "start", "number", "numbers", "found", "image"]) (sc := defScope s_file_of) (by decide +kernel)) (fun _ _ _ _ _ => pg_name (i := 3) sc_file_of.nd rfl (Or.inl rfl)) (fun _ _ _ _ _ => (pts_one (pt_cmpR op_gt (pe_ix (ix_listK (K := K)) (pe_fldK (K := K) (pv 0)) (pv 3) (fun _ _ => rfl)) pe_int (nomark _)))) (fun _ _ _ _ _ => (pv 3)))
      (pss_cons (ps_set (i := 5) sc_file_of.nd rfl (Or.inl rfl) (pe_cal (ok_header_of T) (hr.mono (by decide)) passL (pa_cons (pv 2) (pa_cons (pe_callB (call_lenK (K := K)) (by rfl) T.b_len PySem.boot_len (pa_cons (pv 4) pa_nil)) pa_nil))))
      (pss_cons (ps_for (passes_of rfl) rfl (pi_listK (K := K) (pv 4)) (pg_name (i := 3) sc_file_of.nd rfl (Or.inl rfl)) (pss_one (ps_expr (pe_bmK (K := K) PySem.F.plainAttrs_list PySem.F.slot_list_extend PySem.F.type_list_extend mt_extend (pv 5) (pa_cons (pe_cal (ok_program_header T) (hr.mono (by decide)) passL (pa_cons (pv 0) (pa_cons (pv 3) pa_nil))) pa_nil)))))
      (pss_cons (ps_set (i := 5) sc_file_of.nd rfl (Or.inl rfl) (pe_cal (ok_filled T) (hr.mono (by decide)) passL (pa_cons (pv 5) pa_nil)))
      (pss_cons (ps_for (passes_of rfl) rfl (pi_listK (K := K) (pv 1)) (pg_name (i := 6) sc_file_of.nd rfl (Or.inl rfl)) (pss_one (ps_expr (pe_bmK (K := K) PySem.F.plainAttrs_list PySem.F.slot_list_extend PySem.F.type_list_extend mt_extend (pv 5) (pa_cons (pe_cal (ok_filled T) (hr.mono (by decide)) passL (pa_cons (pv 6) pa_nil)) pa_nil)))))
      (pss_one (ps_ret (pv 5)))))))), ?_⟩)
  · obtain ⟨la, sp, bp, ip, b, s, i, m, bg, sz, rfl, _⟩ := h
    rfl
  · obtain ⟨la, sp, bp, ip, b, s, i, m, bg, sz, rfl, hL, hs, hb, hbb, I, hml, q⟩ := h
    have hnum : given ((4 : Int)).toNat (fun c => decide (0 < sz c)) (fun c => nv c) = (Mx.nums sz).map nv := rfl
    have mnum : ∀ c, c ∈ Mx.nums sz → c < 4 := fun c hc => List.mem_range.mp (List.mem_filter.mp hc).1
    refine q_asgL (xs := (Mx.nums sz).map nv) (by
      rw [← hnum]
      exact el_lcR1 (n := 4) (fun c => decide (0 < sz c)) (fun c => nv c) (ea_cons ev_c ea_nil) ⟨by decide, by decide⟩ (fun _ => rfl) (fun c H1 e1 hc => et_test (ev_gtN (ev_ixN (ev_fl (ev_var rfl) (fl_Layout_sizes T (hL.mono e1))) (SqL.of (e1 _ _ hs)) (ev_var rfl) (range4_at _ (by omega))) (ev_kN 0))) (fun c H1 e1 hc _ => ev_var rfl)) fun np H1 nnp e1 h1 => ?_
    have hnl := Mx.nums_len sz
    refine q_asgL (xs := iv (Mx.hdrOf s (Mx.nums sz).length)) (el_call (ea_cons (ev_var rfl) (ea_cons (ev_is (ev_lenL (ev_var rfl) (SqL.of h1)) (by rw [List.length_map])) ea_nil)) fun H2 e2 Q2 q2 E2 => ⟨s, _, rfl, q2⟩) fun fp H2 nfp e2 h2 => ?_
    have e12 := e1.trans e2
    have nfp0 : H fp = none := fresh_back e1 nfp
    have nnf : np ≠ fp := fun z => by rw [← z, h1] at nfp; cases nfp
    -- the program headers
    refine q_forM (L := Mx.nums sz) (f := nv) (ev_var rfl) (SqL.of (e2 _ _ h1)) (fun pre σ' H' => ∃ v3 : Option V, σ' = [some (.ref la), some (.ref ip), some (nv s), v3, some (.ref np), some (.ref fp), none] ∧ Up fp H2 H' ∧ H' fp = some (.lst (iv (Mx.hdrOf s (Mx.nums sz).length ++ pre.flatMap (Mx.phC b bg sz)))) ∧ (pre.flatMap (Mx.phC b bg sz)).length = 56 * pre.length)
      (fun H3 e3 => ⟨none, rfl, Up.ex e3, by rw [List.flatMap_nil, List.append_nil]; exact e3 _ _ h2, rfl⟩) (fun pre σ' H' pp => by
        obtain ⟨_, _, u, _⟩ := pp
        exact SqL.of (u _ _ (e2 _ _ h1) nnf)) ?_ ?_
    · rintro pre c post σ' H' hsp ⟨v3, rfl, u, hf, hlen⟩
      have hc : c < 4 := mnum c (by rw [hsp]; simp)
      have hpl : pre.length < 4 := by
        have z := congrArg List.length hsp
        rw [List.length_append, List.length_cons] at z
        omega
      have eH : Ex H H' := Up.exF nfp0 e12 u
      have hfl : (pre ++ [c]).flatMap (Mx.phC b bg sz) = pre.flatMap (Mx.phC b bg sz) ++ Mx.phC b bg sz c := by
        rw [List.flatMap_append]
        simp
      refine s_extL (ys := iv (Mx.phC b bg sz c)) hf (ev_var rfl) (el_call (ea_cons (ev_var rfl) (ea_cons (ev_var rfl) ea_nil)) fun H3 e3 Q3 q3 E3 => ⟨la, sp, bp, b, c, bg, sz, rfl, hL.mono (eH.trans e3), (eH.trans e3) _ _ hs, (eH.trans e3) _ _ hb, hc, hbb c hc, q3⟩) (by
        rw [iv_len, iv_len, List.length_append, hlen, Mx.hdrOf_len]
        unfold Mx.phC
        rw [Mx.phOf_len]
        omega) fun H3 e3 => ⟨some (nv c), rfl, (u.trans (Up.ex e3)).upd, ?_, ?_⟩
      · rw [upd_same, ← iv_append, hfl, List.append_assoc]
      · rw [hfl, List.length_append, hlen, List.length_append]
        unfold Mx.phC
        rw [Mx.phOf_len]
        show _ = 56 * (pre.length + 1)
        omega
    rintro σ' H3 ⟨v3, rfl, u3, hf3, hlen3⟩
    have e03 : Ex H H3 := Up.exF nfp0 e12 u3
    have hhd : (Mx.hdrOf s (Mx.nums sz).length ++ (Mx.nums sz).flatMap (Mx.phC b bg sz)).length ≤ 288 := by
      rw [List.length_append, Mx.hdrOf_len, hlen3]
      omega
    generalize hA : Mx.hdrOf s (Mx.nums sz).length ++ (Mx.nums sz).flatMap (Mx.phC b bg sz) = A at hf3 hhd
    refine q_asgL (xs := iv (Mx.pad A)) (el_filled (ev_var rfl) (SqL.of hf3) (by omega)) fun gp H4 ngp e4 h4 => ?_
    have e04 := e03.trans e4
    have ngp0 : H gp = none := fresh_back e03 ngp
    have lA : (Mx.pad A).length ≤ 4384 := by
      have := Mx.up_lt (n := A.length) (a := 4096) (by decide)
      rw [Mx.pad_len]
      omega
    -- the images
    refine q_forM (L := [0, 1, 2]) (f := fun c => V.ref (i c)) (ev_var rfl) (SqL.of (e04 _ _ I.top)) (fun pre σ' H' => ∃ v6 : Option V, σ' = [some (.ref la), some (.ref ip), some (nv s), v3, some (.ref np), some (.ref gp), v6] ∧ Up gp H4 H' ∧ H' gp = some (.lst (iv (Mx.pad A ++ pre.flatMap fun c => Mx.pad (m c)))) ∧ (pre.flatMap fun c => Mx.pad (m c)).length ≤ 4198400 * pre.length)
      (fun H5 e5 => ⟨none, rfl, Up.ex e5, by rw [List.flatMap_nil, List.append_nil]; exact e5 _ _ h4, by simp⟩) (fun pre σ' H' pp => by
        obtain ⟨_, _, u, _⟩ := pp
        exact SqL.of ((Up.exF ngp0 e04 u) _ _ I.top)) ?_ ?_
    · rintro pre c post σ' H' hsp ⟨v6, rfl, u, hf, hlen⟩
      have hc : c < 3 := by
        have z : c ∈ ([0, 1, 2] : List Nat) := by rw [hsp]; simp
        simp at z
        omega
      have hpl : pre.length < 3 := by
        have z := congrArg List.length hsp
        rw [List.length_append, List.length_cons] at z
        simp only [List.length_cons, List.length_nil] at z
        omega
      have eH : Ex H H' := Up.exF ngp0 e04 u
      have hmc := hml c hc
      have hup := Mx.up_lt (n := (m c).length) (a := 4096) (by decide)
      have hfl : ((pre ++ [c]).flatMap fun c => Mx.pad (m c)) = (pre.flatMap fun c => Mx.pad (m c)) ++ Mx.pad (m c) := by
        rw [List.flatMap_append]
        simp
      refine s_extL (ys := iv (Mx.pad (m c))) hf (ev_var rfl) (el_filled (ev_var rfl) (SqL.of (eH _ _ (I.im c hc))) (by omega)) (by
        rw [iv_len, iv_len, List.length_append, Mx.pad_len (m c)]
        omega) fun H5 e5 => ⟨some (.ref (i c)), rfl, (u.trans (Up.ex e5)).upd, ?_, ?_⟩
      · rw [upd_same, ← iv_append, hfl, List.append_assoc]
      · rw [hfl, List.length_append, Mx.pad_len (m c), List.length_append]
        show _ ≤ 4198400 * (pre.length + 1)
        omega
    rintro σ' H5 ⟨v6, rfl, u5, hf5, _⟩
    refine s_ret (ev_var rfl) fun H6 e6 => q gp H6 ngp0 ((Up.exF ngp0 e04 u5).trans e6) ?_
    rw [e6 _ _ hf5]
    unfold Mx.fileOf
    rw [hA]
    simp only [List.flatMap_cons, List.flatMap_nil, List.append_nil, List.append_assoc]
end
end Lk

/-! # Plain law: what holds of an object that was read -/
namespace Mx
open Sn17
structure GoodO (o : Obj) : Prop where
  nsec : o.secs.length ≤ 1024
  nsym : o.syms.length ≤ 2731
  nby : o.bytes.length ≤ 65536
  al : ∀ s ∈ o.secs, 1 ≤ s.align ∧ s.align ≤ 4096
  inn : ∀ s ∈ o.secs, s.type ≠ 8 → s.offset + s.size ≤ o.bytes.length
  sym : ∀ y ∈ o.syms, y.bind ≤ 2 ∧ (y.sec < o.secs.length ∨ y.sec = 65521 ∨ y.sec = 65522) ∧ (y.sec = 65522 → 1 ≤ y.value ∧ y.value ≤ 4096 ∧ y.bind ≠ 0)
  rel : ∀ r ∈ o.rels, ∃ s y, o.secs[r.sec]? = some s ∧ s.loads = true ∧ s.type ≠ 8 ∧ r.offset + widthOf r.type ≤ s.size ∧ o.syms[r.sym]? = some y
theorem mapM_mem {α β : Type} {f : α → R β} : ∀ {l : List α} {ys : List β}, l.mapM f = .ok ys → ∀ y ∈ ys, ∃ x ∈ l, f x = .ok y
  | [], ys, h, y, hy => by
    cases h
    cases hy
  | x :: r, ys, h, y, hy => by
    rw [List.mapM_cons] at h
    cases hx : f x with
    | error e =>
      rw [hx] at h
      cases h
    | ok v =>
      rw [hx] at h
      cases hr : r.mapM f with
      | error e =>
        rw [hr] at h
        cases h
      | ok vs =>
        rw [hr] at h
        cases h
        rcases List.mem_cons.mp hy with e | e
        · exact ⟨x, List.mem_cons_self .., by rw [hx, e]⟩
        · obtain ⟨z, mz, hz⟩ := mapM_mem hr y e
          exact ⟨z, List.mem_cons_of_mem _ mz, hz⟩
theorem symOk_facts {n i : Nat} {y : Sym} (h : symOk n i y = .ok ()) : y.bind ≤ 2 ∧ (y.sec < n ∨ y.sec = 65521 ∨ y.sec = 65522) ∧ (y.sec = 65522 → 1 ≤ y.value ∧ y.value ≤ 4096 ∧ y.bind ≠ 0) := by
  unfold symOk at h
  by_cases h1 : 2 < y.bind
  · rw [if_pos h1] at h
    cases h
  rw [if_neg h1] at h
  by_cases h2 : n ≤ y.sec ∧ y.sec ≠ ABS ∧ y.sec ≠ COMMON
  · rw [if_pos h2] at h
    cases h
  rw [if_neg h2] at h
  by_cases h3 : y.sec = COMMON ∧ powers.contains y.value = false
  · rw [if_pos h3] at h
    cases h
  rw [if_neg h3] at h
  by_cases h4 : (y.bind ≠ 0 ∧ y.name = []) ∨ (y.bind = 0 ∧ y.sec = 0 ∧ i ≠ 0) ∨ (y.bind = 0 ∧ y.sec = COMMON)
  · rw [if_pos h4] at h
    cases h
  refine ⟨by omega, ?_, fun hc => ?_⟩
  · by_cases k : y.sec < n
    · exact .inl k
    · by_cases k2 : y.sec = ABS
      · exact .inr (.inl k2)
      · by_cases k3 : y.sec = COMMON
        · exact .inr (.inr k3)
        · exact absurd ⟨by omega, k2, k3⟩ h2
  · have hp : powers.contains y.value = true := by
      cases e : powers.contains y.value with
      | true => rfl
      | false => exact absurd ⟨hc, e⟩ h3
    obtain ⟨p1, p2⟩ := powers_le hp
    exact ⟨p1, p2, fun z => h4 (.inr (.inr ⟨z, hc⟩))⟩
theorem object_good {b : Bytes} {o : Obj} (h : object b = .ok o) (hb : b.length ≤ 65536) : GoodO o ∧ o.bytes = b := by
  rw [object_eq] at h
  unfold objRaw at h
  cases h1 : secRaw b with
  | error e =>
    rw [h1] at h
    cases h
  | ok secs =>
    rw [h1] at h
    have h' : ((secOk b secs).bind fun _ => (symRaw b secs).bind fun (syms : List Sym) => match secs.zipIdx.filter fun x => x.1.type == SYMTAB with
      | [t] => ((secs.filter fun (s : Sec) => s.type == RELA).mapM (relTab b secs syms.length t.2)).map fun (l : List (List Rel)) => (⟨secs, syms, l.flatten, b⟩ : Obj)
      | _ => .error .form) = .ok o := h
    cases h2 : secOk b secs with
    | error e =>
      rw [h2] at h'
      cases h'
    | ok u =>
      rw [h2] at h'
      have h3' : ((symRaw b secs).bind fun (syms : List Sym) => match secs.zipIdx.filter fun x => x.1.type == SYMTAB with
        | [t] => ((secs.filter fun (s : Sec) => s.type == RELA).mapM (relTab b secs syms.length t.2)).map fun (l : List (List Rel)) => (⟨secs, syms, l.flatten, b⟩ : Obj)
        | _ => .error .form) = .ok o := h'
      cases h3 : symRaw b secs with
      | error e =>
        rw [h3] at h3'
        cases h3'
      | ok syms =>
        rw [h3] at h3'
        have h4 : (match secs.zipIdx.filter fun x => x.1.type == SYMTAB with
          | [t] => ((secs.filter fun (s : Sec) => s.type == RELA).mapM (relTab b secs syms.length t.2)).map fun (l : List (List Rel)) => (⟨secs, syms, l.flatten, b⟩ : Obj)
          | _ => .error .form) = .ok o := h3'
        obtain ⟨t, ht⟩ := symRaw_one h3
        obtain ⟨k, k1, k2, k3⟩ := only_one ht
        rw [k1] at h4
        have h5 : ((secs.filter fun (s : Sec) => s.type == RELA).mapM (relTab b secs syms.length k)).map (fun l => (⟨secs, syms, l.flatten, b⟩ : Obj)) = .ok o := h4
        cases h6 : (secs.filter fun s => s.type == RELA).mapM (relTab b secs syms.length k) with
        | error e =>
          rw [h6] at h5
          cases h5
        | ok ls =>
          rw [h6] at h5
          have e : (⟨secs, syms, ls.flatten, b⟩ : Obj) = o := Except.ok.inj h5
          subst e
          obtain ⟨g1, g2⟩ := secOk_all h2
          have hin : ∀ s ∈ secs, s.type ≠ 8 → s.offset + s.size ≤ b.length := fun s m n => good1_in (g1 s m) n
          have hsl := secRaw_len h1
          refine ⟨⟨by show secs.length ≤ 1024; omega, ?_, hb, fun s m => ?_, hin, fun y m => ?_, fun r m => ?_⟩, rfl⟩
          · show syms.length ≤ 2731
            unfold symRaw at h3
            rw [ht] at h3
            have h3 : symTab b secs t = .ok syms := h3
            unfold symTab at h3
            cases hl : secs[t.link]? with
            | none =>
              rw [hl] at h3
              cases h3
            | some s =>
              rw [hl] at h3
              dsimp only at h3
              split at h3
              · cases h3
              · have hlen := mapM_len h3
                rw [List.length_range] at hlen
                have mt : t ∈ secs.filter fun s => decide (s.type = 2) := by rw [ht]; exact List.mem_cons_self ..
                obtain ⟨m1, m2⟩ := List.mem_filter.mp mt
                have ht2 : t.type = 2 := of_decide_eq_true m2
                have := hin t m1 (by rw [ht2]; decide)
                omega
          · have g := g1 s m
            unfold good1 at g
            rw [Bool.and_eq_true] at g
            exact powers_le g.2
          · have h3'' := h3
            unfold symRaw at h3''
            rw [ht] at h3''
            have h3'' : symTab b secs t = .ok syms := h3''
            unfold symTab at h3''
            cases hl : secs[t.link]? with
            | none =>
              rw [hl] at h3''
              cases h3''
            | some s =>
              rw [hl] at h3''
              dsimp only at h3''
              split at h3''
              · cases h3''
              · obtain ⟨i, mi, hi⟩ := mapM_mem h3'' y m
                unfold symStep at hi
                split at hi
                · cases hi
                · rename_i x hx
                  cases hq : symOk secs.length i (symOf (ent (cutOf b t) i) x) with
                  | error e =>
                    rw [hq] at hi
                    cases hi
                  | ok u =>
                    rw [hq] at hi
                    have ey : symOf (ent (cutOf b t) i) x = y := Except.ok.inj hi
                    rw [ey] at hq
                    exact symOk_facts hq
          · obtain ⟨l, ml, mr⟩ := List.mem_flatten.mp m
            obtain ⟨rt, _, hrt⟩ := mapM_mem h6 l ml
            unfold relTab at hrt
            cases hl : secs[rt.info]? with
            | none =>
              rw [hl] at hrt
              cases hrt
            | some s =>
              rw [hl] at hrt
              dsimp only at hrt
              split at hrt
              · cases hrt
              · obtain ⟨i, mi, hi⟩ := mapM_mem hrt r mr
                have hld : s.loads = true := by
                  cases z : s.loads with
                  | true => rfl
                  | false =>
                    rw [z] at mi
                    simp at mi
                unfold relStep at hi
                dsimp only at hi
                split at hi
                · cases hi
                · split at hi
                  · cases hi
                  · split at hi
                    · cases hi
                    · rename_i c1 c2 c3
                      have er := Except.ok.inj hi
                      have ec : r.sec = rt.info := by rw [← er]; rfl
                      rw [er] at c2 c3
                      have hsy : r.sym < syms.length := by omega
                      refine ⟨s, syms[r.sym], ?_, hld, fun z => c2 (.inr z), by omega, List.getElem?_eq_getElem hsy⟩
                      show secs[r.sec]? = some s
                      rw [ec]
                      exact hl
theorem cut_in : ∀ {sizes : List Nat} {b : Bytes} {p : Bytes}, p ∈ cut sizes b → p.length ≤ b.length
  | [], _, _, h => nomatch h
  | n :: r, b, p, h => by
    have h' : p ∈ b.take n :: cut r (b.drop n) := h
    rcases List.mem_cons.mp h' with e | e
    · rw [e, List.length_take]
      omega
    · have := cut_in e
      rw [List.length_drop] at this
      omega
theorem objects_good {sizes : List Nat} {b : Bytes} {os : List Obj} (h : (cut sizes b).mapM object = .ok os) (hb : b.length ≤ 65536) : ∀ o ∈ os, GoodO o := fun o m => by
  obtain ⟨p, mp, hp⟩ := mapM_mem h o m
  have := cut_in mp
  exact (object_good hp (by omega)).1
end Mx

set_option Elab.async false
set_option linter.all false
set_option maxRecDepth 100000
set_option maxHeartbeats 4000000
/-! # Plain law: what is placed and found is what the specification says -/
namespace Lk
open PySem PySem.Spec PyProof.Rows L2 Evl He
structure PlA (b : Nat) (ds : List OD) (nms : List (NR × PM)) (pl : Addr → Nat × Nat) (ad : Addr → Nat) : Prop where
  pos : ∀ x ∈ allK ds, x.2.2.loads = true → (x.1, (pl x.2.1).1) ∈ (Sn17.layClass (Sn17.classOf x.2.2) ((allK ds).map kS)).1 ∧ (pl x.2.1).2 = begs b (szs ((allK ds).map kS) (nms.map mnS)) (Sn17.classOf x.2.2) + (pl x.2.1).1
  com : ∀ x ∈ nms, comB x.2 = true → ∃ q, (x.1.n, q) ∈ (Sn17.layCommon (nms.map mnS) (Sn17.layClass 3 ((allK ds).map kS)).2).1 ∧ ad x.1.a = begs b (szs ((allK ds).map kS) (nms.map mnS)) 3 + q
  noc : ∀ x ∈ nms, comB x.2 = false → ad x.1.a = 0
  nd : ((nms.map (·.1)).map (·.n)).Nodup
  sym : ∀ x ∈ nms, ∀ p, x.2 = .sym p → PIn ds p
  hb : b % 4096 = 0
/-! ### keys are different -/
theorem zip_snd_ge {α : Type} : ∀ {l : List α} {n i : Nat}, i ∈ (l.zipIdx n).map (·.2) → n ≤ i
  | [], _, _, h => nomatch h
  | x :: r, n, i, h => by
    rw [List.zipIdx_cons, List.map_cons] at h
    rcases List.mem_cons.mp h with e | e
    · rw [e]
      exact Nat.le_refl _
    · have := zip_snd_ge e
      omega
theorem zip_snd_nd {α : Type} : ∀ (l : List α) (n : Nat), ((l.zipIdx n).map (·.2)).Nodup
  | [], _ => List.nodup_nil
  | x :: r, n => by
    rw [List.zipIdx_cons, List.map_cons, List.nodup_cons]
    refine ⟨fun h => ?_, zip_snd_nd r (n + 1)⟩
    have := zip_snd_ge h
    omega
theorem allK_nd (ds : List OD) : ((allK ds).map (·.1)).Nodup := by
  have inner : ∀ (l : List (Addr × Sn17.Sec)) (n k : Nat), ((l.zipIdx k).map fun z => (n, z.2)).Nodup := fun l n k => by
    have h := zip_snd_nd l k
    have e : ((l.zipIdx k).map fun z => (n, z.2)) = ((l.zipIdx k).map (·.2)).map fun i => (n, i) := by
      rw [List.map_map]
      rfl
    rw [e]
    generalize (l.zipIdx k).map (·.2) = m at h
    induction m with
    | nil => exact List.nodup_nil
    | cons x r ih =>
      rw [List.nodup_cons] at h
      rw [List.map_cons, List.nodup_cons]
      refine ⟨fun hm => ?_, ih h.2⟩
      obtain ⟨y, my, ey⟩ := List.mem_map.mp hm
      have ex : y = x := congrArg (·.2) ey
      rw [ex] at my
      exact h.1 my
  have go : ∀ (l : List OD) (n : Nat), (((l.zipIdx n).flatMap fun d => d.1.zs.zipIdx.map fun z => (((d.2, z.2), z.1) : KZ)).map (·.1)).Nodup := by
    intro l
    induction l with
    | nil => intro n; exact List.nodup_nil
    | cons d r ih =>
      intro n
      rw [List.zipIdx_cons, List.flatMap_cons, List.map_append, List.nodup_append]
      refine ⟨?_, ih (n + 1), fun a ha c hc e => ?_⟩
      · rw [List.map_map]
        exact inner d.zs n 0
      · rw [List.map_map] at ha
        obtain ⟨z, mz, ez⟩ := List.mem_map.mp ha
        obtain ⟨x, mx, ex⟩ := List.mem_map.mp hc
        obtain ⟨⟨d', i⟩, m1, m2⟩ := List.mem_flatMap.mp mx
        obtain ⟨z', mz', ez'⟩ := List.mem_map.mp m2
        have h1 := (mem_zip m1).1
        rw [← e, ← ez, ← ez'] at ex
        have h2 : i = n := congrArg (fun p : Nat × Nat => p.1) ex
        omega
  exact go ds 0
/-! ### the whole -/
def wOf (b : Nat) (os : List Sn17.Obj) (nm : List (List Nat × Sn17.Meant)) : Sn17.Whole :=
  let ls := (List.range 4).map fun c => Sn17.layClass c (Sn17.allSecs os)
  let c := Sn17.layCommon nm ((ls.getD 3 ([], 0)).2)
  ⟨os, nm, b, (ls.map fun x => x.2).take 3 ++ [c.2], ls.flatMap fun x => x.1, c.1⟩
theorem whole_eq {b : Nat} {os : List Sn17.Obj} {nm : List (List Nat × Sn17.Meant)} (h : Sn17.meanings os = .ok nm) : Sn17.whole b os = .ok (wOf b os nm) := by
  unfold Sn17.whole
  rw [h]
  rfl
theorem wOf_sizes (b : Nat) (os : List Sn17.Obj) (nm : List (List Nat × Sn17.Meant)) : (wOf b os nm).sizes = szs (Sn17.allSecs os) nm := rfl
theorem wOf_lay (b : Nat) (os : List Sn17.Obj) (nm : List (List Nat × Sn17.Meant)) : (wOf b os nm).lay = (List.range 4).flatMap fun c => (Sn17.layClass c (Sn17.allSecs os)).1 := by
  show (((List.range 4).map fun c => Sn17.layClass c (Sn17.allSecs os)).flatMap fun x => x.1) = _
  rw [List.flatMap_map]
theorem wOf_commons (b : Nat) (os : List Sn17.Obj) (nm : List (List Nat × Sn17.Meant)) : (wOf b os nm).commons = (Sn17.layCommon nm (Sn17.layClass 3 (Sn17.allSecs os)).2).1 := rfl
theorem up_add {q s : Nat} (h : q % 4096 = 0) : Sn17.up (q + s) 4096 = q + Sn17.up s 4096 := by
  unfold Sn17.up
  omega
theorem up_mod (s : Nat) : Sn17.up s 4096 % 4096 = 0 := by
  unfold Sn17.up
  omega
theorem begs_eq {b s0 s1 s2 s3 : Nat} (hb : b % 4096 = 0) {c : Nat} (hc : c < 4) : begs b [s0, s1, s2, s3] c = b + (([s0, s1, s2, s3].take c).map fun n => Sn17.up n 4096).sum := by
  have b0 : begs b [s0, s1, s2, s3] 0 = b := rfl
  have b1 : begs b [s0, s1, s2, s3] 1 = b + Sn17.up s0 4096 := by
    show Sn17.up (begs b [s0, s1, s2, s3] 0 + s0) 4096 = _
    rw [b0, up_add hb]
  have m0 := up_mod s0
  have m1 := up_mod s1
  have b2 : begs b [s0, s1, s2, s3] 2 = b + Sn17.up s0 4096 + Sn17.up s1 4096 := by
    show Sn17.up (begs b [s0, s1, s2, s3] 1 + s1) 4096 = _
    rw [b1, up_add (by omega)]
  have b3 : begs b [s0, s1, s2, s3] 3 = b + Sn17.up s0 4096 + Sn17.up s1 4096 + Sn17.up s2 4096 := by
    show Sn17.up (begs b [s0, s1, s2, s3] 2 + s2) 4096 = _
    rw [b2, up_add (by omega)]
  have hcase : c = 0 ∨ c = 1 ∨ c = 2 ∨ c = 3 := by omega
  rcases hcase with e | e | e | e <;> subst e
  · rw [b0]; rfl
  · rw [b1]; simp
  · rw [b2]; simp; omega
  · rw [b3]; simp; omega
theorem begs_ge {b s0 s1 s2 s3 : Nat} (hb : b % 4096 = 0) {c : Nat} (hc : c < 4) : b ≤ begs b [s0, s1, s2, s3] c := by
  rw [begs_eq hb hc]
  exact Nat.le_add_right _ _
theorem start_eq {b : Nat} {os : List Sn17.Obj} {nm : List (List Nat × Sn17.Meant)} (hb : b % 4096 = 0) {c : Nat} (hc : c < 4) : (wOf b os nm).start c = begs b (szs (Sn17.allSecs os) nm) c := by
  unfold szs
  rw [begs_eq hb hc]
  rfl
theorem find_key {κ β : Type} [BEq κ] [LawfulBEq κ] {l : List (κ × β)} {k : κ} {q : β} (h : (k, q) ∈ l) (hu : ∀ q', (k, q') ∈ l → q' = q) : l.find? (fun y => y.1 == k) = some (k, q) := by
  cases e : l.find? (fun y => y.1 == k) with
  | none =>
    have z := List.find?_eq_none.mp e _ h
    simp at z
  | some x =>
    obtain ⟨k', q'⟩ := x
    have h1 := List.mem_of_find?_eq_some e
    have h2 := List.find?_some e
    have h3 : k' = k := by simpa using h2
    subst h3
    rw [hu q' h1]
section
variable {b : Nat} {ds : List OD} {nms : List (NR × PM)} {pl : Addr → Nat × Nat} {ad : Addr → Nat}
theorem lay_mem {c : Nat} {k : Nat × Nat} {q : Nat} (h : (k, q) ∈ (Sn17.layClass c ((allK ds).map kS)).1) : ∃ x ∈ allK ds, x.1 = k ∧ x.2.2.loads = true ∧ Sn17.classOf x.2.2 = c := by
  have h1 : k ∈ (Sn17.layClass c ((allK ds).map kS)).1.map (·.1) := List.mem_map.mpr ⟨_, h, rfl⟩
  rw [Mx.layClass_keys] at h1
  obtain ⟨y, my, ey⟩ := List.mem_map.mp h1
  obtain ⟨m1, m2⟩ := List.mem_filter.mp my
  obtain ⟨x, mx, ex⟩ := List.mem_map.mp m1
  rw [Bool.and_eq_true] at m2
  subst ex
  exact ⟨x, mx, ey, m2.1, of_decide_eq_true m2.2⟩
theorem lay_uni {c : Nat} {k : Nat × Nat} {q q' : Nat} (h : (k, q) ∈ (Sn17.layClass c ((allK ds).map kS)).1) (h' : (k, q') ∈ (Sn17.layClass c ((allK ds).map kS)).1) : q' = q := by
  have nd : ((Sn17.layClass c ((allK ds).map kS)).1.map (·.1)).Nodup := by
    rw [Mx.layClass_keys]
    have z : ((((allK ds).map kS)).map (·.1)).Nodup := by
      rw [List.map_map]
      exact allK_nd ds
    exact List.Nodup.sublist (List.Sublist.map _ List.filter_sublist) z
  exact congrArg (·.2) (Mx.nodup_inj nd h' h rfl)
theorem secAt_eq (hp : PlA b ds nms pl ad) {o k : Nat} {d : OD} {z : Addr × Sn17.Sec} (ho : ds[o]? = some d) (hk : d.zs[k]? = some z) : (wOf b (ds.map OD.obj) (nms.map mnS)).secAt o k = if z.2.loads = true then some (pl z.1).2 else none := by
  have hx : ((o, k), z) ∈ allK ds := mem_allK.mpr ⟨d, ho, hk⟩
  have hS := allK_secs ds
  have hobj : ((wOf b (ds.map OD.obj) (nms.map mnS)).objs[o]?).bind (fun x => x.secs[k]?) = some z.2 := by
    show ((ds.map OD.obj)[o]?).bind _ = _
    rw [List.getElem?_map, ho]
    show (d.zs.map (·.2))[k]? = _
    rw [List.getElem?_map, hk]
    rfl
  unfold Sn17.Whole.secAt
  rw [hobj]
  show ((wOf b (ds.map OD.obj) (nms.map mnS)).lay.find? fun y => y.1 == (o, k)).map (fun y => (wOf b (ds.map OD.obj) (nms.map mnS)).start (Sn17.classOf z.2) + y.2) = _
  rw [wOf_lay, ← hS]
  have hcl : ∀ {c q}, ((o, k), q) ∈ (Sn17.layClass c ((allK ds).map kS)).1 → z.2.loads = true ∧ Sn17.classOf z.2 = c := fun {c q} h => by
    obtain ⟨x, mx, e1, e2, e3⟩ := lay_mem h
    have e := Mx.nodup_inj (allK_nd ds) mx hx e1
    subst e
    exact ⟨e2, e3⟩
  by_cases hl : z.2.loads = true
  · rw [if_pos hl]
    obtain ⟨h1, h2⟩ := hp.pos _ hx hl
    rw [find_key (k := (o, k)) (q := (pl z.1).1) (List.mem_flatMap.mpr ⟨_, List.mem_range.mpr (Mx.class_lt z.2), h1⟩) (fun q' hq' => by
      obtain ⟨c, mc, hc⟩ := List.mem_flatMap.mp hq'
      have e := (hcl hc).2
      subst e
      exact lay_uni h1 hc)]
    show some (_ + (pl z.1).1) = _
    rw [start_eq hp.hb (Mx.class_lt z.2), ← hS, ← h2]
  · rw [if_neg hl]
    have hn : ((List.range 4).flatMap fun c => (Sn17.layClass c ((allK ds).map kS)).1).find? (fun y => y.1 == (o, k)) = none := by
      rw [List.find?_eq_none]
      rintro ⟨k', q'⟩ hm he
      have e : k' = (o, k) := by simpa using he
      subst e
      obtain ⟨c, mc, hc⟩ := List.mem_flatMap.mp hm
      exact hl (hcl hc).1
    rw [hn]
    rfl
theorem secAt_no {o k : Nat} {d : OD} {nm : List (List Nat × Sn17.Meant)} (ho : ds[o]? = some d) (hk : d.zs[k]? = none) : (wOf b (ds.map OD.obj) nm).secAt o k = none := by
  have hobj : ((wOf b (ds.map OD.obj) nm).objs[o]?).bind (fun x => x.secs[k]?) = none := by
    show ((ds.map OD.obj)[o]?).bind _ = _
    rw [List.getElem?_map, ho]
    show (d.zs.map (·.2))[k]? = _
    rw [List.getElem?_map, hk]
    rfl
  unfold Sn17.Whole.secAt
  rw [hobj]
  rfl
theorem here_eq (hp : PlA b ds nms pl ad) {o : Nat} {d : OD} (ho : ds[o]? = some d) (s : Sn17.Sym) : (wOf b (ds.map OD.obj) (nms.map mnS)).here o s = adr d.zs pl s := by
  unfold Sn17.Whole.here adr
  by_cases h0 : s.sec = 0
  · rw [if_neg (by rw [h0]; decide), if_pos h0, if_pos h0]
  · by_cases h1 : s.sec = 65521
    · rw [if_pos (show s.sec = Sn17.ABS from h1), if_neg h0, if_pos h1]
    · rw [if_neg (show ¬ s.sec = Sn17.ABS from h1), if_neg h0, if_neg h0, if_neg h1]
      cases hk : d.zs[s.sec]? with
      | none =>
        rw [secAt_no ho hk]
        rfl
      | some z =>
        rw [secAt_eq hp ho hk]
        by_cases hl : z.2.loads = true
        · simp only [if_pos hl]
          rfl
        · simp only [if_neg hl]
          rfl
theorem find_map {α β : Type} (g : α → β) (p : β → Bool) (q : α → Bool) (h : ∀ x, p (g x) = q x) : ∀ l : List α, (l.map g).find? p = (l.find? q).map g
  | [] => rfl
  | x :: r => by
    rw [List.map_cons, List.find?_cons, List.find?_cons, h]
    cases q x with
    | true => rfl
    | false => exact find_map g p q h r
theorem name_eq (hp : PlA b ds nms pl ad) (n : List Nat) : (wOf b (ds.map OD.obj) (nms.map mnS)).name n = whrN ds nms pl ad n := by
  have hS := allK_secs ds
  unfold Sn17.Whole.name whrN
  have hf : (wOf b (ds.map OD.obj) (nms.map mnS)).names.find? (fun y => y.1 == n) = (nms.find? fun x => decide (x.1.n = n)).map mnS := find_map mnS _ _ (fun x => by
    show (x.1.n == n) = decide (x.1.n = n)
    by_cases h : x.1.n = n
    · rw [h, decide_eq_true rfl]
      simp
    · rw [decide_eq_false h]
      exact beq_eq_false_iff_ne.mpr h) nms
  rw [hf]
  cases hx : nms.find? (fun x => decide (x.1.n = n)) with
  | none => rfl
  | some x =>
    have mx := List.mem_of_find?_eq_some hx
    have hn : x.1.n = n := by simpa using List.find?_some hx
    obtain ⟨r, m⟩ := x
    cases m with
    | sym p =>
      obtain ⟨d, h1, h2, h3⟩ := hp.sym _ mx p rfl
      show (wOf b (ds.map OD.obj) (nms.map mnS)).here p.o p.s = adr (zoF ds p) pl p.s
      rw [here_eq hp h1]
      unfold zoF
      rw [h1]
      rfl
    | common s a =>
      obtain ⟨q, h1, h2⟩ := hp.com _ mx rfl
      show ((wOf b (ds.map OD.obj) (nms.map mnS)).commons.find? fun y => y.1 == n).map (fun y => (wOf b (ds.map OD.obj) (nms.map mnS)).start 3 + y.2) = some (ad r.a)
      rw [wOf_commons, ← hS, h2]
      have h1' : (n, q) ∈ (Sn17.layCommon (nms.map mnS) (Sn17.layClass 3 ((allK ds).map kS)).2).1 := by
        rw [← hn]
        exact h1
      have nd : ((Sn17.layCommon (nms.map mnS) (Sn17.layClass 3 ((allK ds).map kS)).2).1.map (·.1)).Nodup := by
        rw [Mx.layCommon_keys]
        have z : ((nms.map mnS).map (·.1)).Nodup := by
          have z := hp.nd
          rw [List.map_map] at z
          rw [List.map_map]
          exact z
        exact List.Nodup.sublist (List.Sublist.map _ List.filter_sublist) z
      rw [find_key h1' (fun q' hq' => congrArg (·.2) (Mx.nodup_inj nd hq' h1' rfl))]
      show some (_ + q) = _
      rw [start_eq hp.hb (by decide), ← hS]
    | nothing =>
      show some 0 = some (ad r.a)
      rw [hp.noc _ mx rfl]
end
end Lk

/-! # Plain law: bounds, runs, images -/
namespace Mx
open Sn17
theorem snoc_ind {α : Type} {p : List α → Prop} (h0 : p []) (h1 : ∀ l x, p l → p (l ++ [x])) (l : List α) : p l := by
  have go : ∀ r : List α, p r.reverse := by
    intro r
    induction r with
    | nil => exact h0
    | cons x r ih =>
      rw [List.reverse_cons]
      exact h1 _ x ih
  have z := go l.reverse
  rw [List.reverse_reverse] at z
  exact z
theorem lay_le {c : Nat} (l : List Keyed) : (∀ y ∈ l, 1 ≤ y.2.align) → ∀ k q, (k, q) ∈ (layClass c l).1 → ∃ y ∈ l, y.1 = k ∧ y.2.loads = true ∧ classOf y.2 = c ∧ q + y.2.size ≤ (layClass c l).2 := by
  refine snoc_ind (p := fun l => (∀ y ∈ l, 1 ≤ y.2.align) → ∀ k q, (k, q) ∈ (layClass c l).1 → ∃ y ∈ l, y.1 = k ∧ y.2.loads = true ∧ classOf y.2 = c ∧ q + y.2.size ≤ (layClass c l).2) ?_ ?_ l
  · intro _ k q h
    cases h
  · intro l x ih ha k q h
    have ih := ih fun y hy => ha y (List.mem_append_left _ hy)
    have hx1 := ha x (by simp)
    rw [layClass_snoc] at h ⊢
    by_cases hx : x.2.loads = true ∧ classOf x.2 = c
    · rw [if_pos hx] at h ⊢
      rcases List.mem_append.mp h with m | m
      · obtain ⟨y, my, h1, h2, h3, h4⟩ := ih k q m
        refine ⟨y, List.mem_append_left _ my, h1, h2, h3, ?_⟩
        show _ ≤ up (layClass c l).2 x.2.align + x.2.size
        have := up_ge (n := (layClass c l).2) hx1
        omega
      · have e : (k, q) = (x.1, up (layClass c l).2 x.2.align) := by simpa using m
        have e1 : k = x.1 := congrArg (·.1) e
        have e2 : q = up (layClass c l).2 x.2.align := congrArg (·.2) e
        exact ⟨x, by simp, e1.symm, hx.1, hx.2, by rw [e2]; exact Nat.le_refl _⟩
    · rw [if_neg hx] at h ⊢
      obtain ⟨y, my, h1⟩ := ih k q h
      exact ⟨y, List.mem_append_left _ my, h1⟩
def secM (s : Sec) : Nat := if s.loads = true then s.size + s.align else 0
theorem lay_sum {c : Nat} (l : List Keyed) : (∀ y ∈ l, 1 ≤ y.2.align) → (layClass c l).2 ≤ (l.map fun y => secM y.2).sum := by
  refine snoc_ind (p := fun l => (∀ y ∈ l, 1 ≤ y.2.align) → (layClass c l).2 ≤ (l.map fun y => secM y.2).sum) ?_ ?_ l
  · intro _
    exact Nat.zero_le _
  · intro l x ih ha
    have ih := ih fun y hy => ha y (List.mem_append_left _ hy)
    have hx1 := ha x (by simp)
    rw [layClass_snoc, List.map_append, List.sum_append]
    have e : (List.map (fun y : Keyed => secM y.2) [x]).sum = secM x.2 := by simp
    rw [e]
    by_cases hx : x.2.loads = true ∧ classOf x.2 = c
    · rw [if_pos hx]
      show up (layClass c l).2 x.2.align + x.2.size ≤ _
      have := up_lt (n := (layClass c l).2) hx1
      have e2 : secM x.2 = x.2.size + x.2.align := by
        unfold secM
        exact if_pos hx.1
      rw [e2]
      omega
    · rw [if_neg hx]
      exact Nat.le_trans ih (Nat.le_add_right _ _)
/-! ### runs -/
section
variable {α β γ : Type}
theorem mapM_map {h : γ → α} {f : α → R β} : ∀ l : List γ, (l.map h).mapM f = l.mapM fun x => f (h x)
  | [] => rfl
  | x :: r => by rw [List.map_cons, List.mapM_cons, List.mapM_cons, mapM_map r]
theorem mapM_post {f : α → R β} {g : β → γ} : ∀ l : List α, (l.mapM fun x => (f x).map g) = (l.mapM f).map (List.map g)
  | [] => rfl
  | x :: r => by
    rw [List.mapM_cons, List.mapM_cons, mapM_post r]
    cases f x with
    | error e => rfl
    | ok v =>
      cases r.mapM f with
      | error e => rfl
      | ok vs => rfl
theorem mapM_app {f : α → R β} : ∀ a b : List α, (a ++ b).mapM f = (a.mapM f).bind fun x => (b.mapM f).map fun y => x ++ y
  | [], b => by
    show b.mapM f = (b.mapM f).map fun y => [] ++ y
    cases b.mapM f with
    | error e => rfl
    | ok v => rfl
  | x :: r, b => by
    rw [List.cons_append, List.mapM_cons, List.mapM_cons, mapM_app r b]
    cases f x with
    | error e => rfl
    | ok v =>
      cases r.mapM f with
      | error e => rfl
      | ok vs =>
        cases b.mapM f with
        | error e => rfl
        | ok ws => rfl
theorem mapM_flat {g : γ → List α} {f : α → R β} : ∀ l : List γ, (l.mapM fun x => (g x).mapM f).map List.flatten = (l.flatMap g).mapM f
  | [] => rfl
  | x :: r => by
    rw [List.mapM_cons, List.flatMap_cons, mapM_app, ← mapM_flat r]
    cases (g x).mapM f with
    | error e => rfl
    | ok v =>
      cases (r.mapM fun x => (g x).mapM f) with
      | error e => rfl
      | ok vs => rfl
end
/-! ### images -/
theorem over_mid (A l Z B bs : Bytes) (b k : Nat) (h : k + bs.length ≤ l.length) : over b (A ++ ((l ++ Z) ++ B)) (b + A.length + k, bs) = A ++ (((l.take k ++ bs ++ l.drop (k + bs.length)) ++ Z) ++ B) := by
  unfold over
  have e : b + A.length + k - b = A.length + k := by omega
  dsimp only
  rw [e]
  have h1 : (A ++ ((l ++ Z) ++ B)).take (A.length + k) = A ++ l.take k := by
    rw [List.take_length_add_append, List.append_assoc, List.take_append_of_le_length (by omega)]
  have h2 : (A ++ ((l ++ Z) ++ B)).drop (A.length + k + bs.length) = l.drop (k + bs.length) ++ (Z ++ B) := by
    rw [Nat.add_assoc, List.drop_length_add_append, List.append_assoc, List.drop_append_of_le_length h]
  rw [h1, h2]
  simp only [List.append_assoc]
end Mx

set_option Elab.async false
set_option linter.all false
set_option maxRecDepth 100000
set_option maxHeartbeats 4000000
/-! # Plain law: relocations, images, the file -/
namespace Lk
open PySem PySem.Spec PyProof.Rows L2 Evl He
def relP (ds : List OD) (nms : List (NR × PM)) (pl : Addr → Nat × Nat) (ad : Addr → Nat) (x : OD × Sn17.Rel) : Sn17.R Wr := match x.1.zs[x.2.sec]?, x.1.zy[x.2.sym]? with
  | some z, some y => match tgt ds nms pl ad x.1 y.2 with
    | none => .error .kind
    | some v => if x.2.type = 0 then .ok (Sn17.classOf z.2, (pl z.1).1 + x.2.offset, []) else (Mx.valP x.2.type ((v : Int) + x.2.more) ((pl z.1).2 + x.2.offset)).map fun n => (Sn17.classOf z.2, (pl z.1).1 + x.2.offset, Sn17.put (Mx.widthOf x.2.type) n)
  | _, _ => .error .form
def cv (g : Nat → Nat) (x : Wr) : Nat × List Nat := (g x.1 + x.2.1, x.2.2)
theorem wr_nil (m : Nat → List Nat) (c k : Nat) : wr m (c, k, []) = m := by
  funext c'
  unfold wr
  by_cases e : c' = c
  · rw [if_pos e]
    show (m c').take k ++ [] ++ (m c').drop (k + 0) = _
    rw [List.append_nil, Nat.add_zero, List.take_append_drop]
  · rw [if_neg e]
section
variable {b : Nat} {ds : List OD} {nms : List (NR × PM)} {pl : Addr → Nat × Nat} {ad : Addr → Nat}
theorem relW_P (x : OD × Sn17.Rel) : (∀ e, relP ds nms pl ad x = .error e → relW ds nms pl ad x = .error e) ∧ ∀ t, relP ds nms pl ad x = .ok t → ∃ l, relW ds nms pl ad x = .ok l ∧ ∀ m, l.foldl wr m = wr m t := by
  unfold relP relW
  cases x.1.zs[x.2.sec]? with
  | none => exact ⟨fun e h => by cases h; rfl, fun t h => nomatch h⟩
  | some z =>
    cases x.1.zy[x.2.sym]? with
    | none => exact ⟨fun e h => by cases h; rfl, fun t h => nomatch h⟩
    | some y =>
      dsimp only
      cases tgt ds nms pl ad x.1 y.2 with
      | none => exact ⟨fun e h => by cases h; rfl, fun t h => nomatch h⟩
      | some v =>
        dsimp only
        by_cases ht : x.2.type = 0
        · rw [if_pos ht, if_pos ht]
          refine ⟨(fun e h => nomatch h), fun t h => ⟨[], rfl, fun m => ?_⟩⟩
          cases h
          rw [wr_nil]
          rfl
        · rw [if_neg ht, if_neg ht]
          cases Mx.valP x.2.type ((v : Int) + x.2.more) ((pl z.1).2 + x.2.offset) with
          | error e =>
            refine ⟨fun e' h => ?_, (fun t h => nomatch h)⟩
            cases h
            rfl
          | ok n =>
            refine ⟨(fun e h => nomatch h), fun t h => ?_⟩
            cases h
            exact ⟨_, rfl, fun m => rfl⟩
theorem relWs_P : ∀ (l : List (OD × Sn17.Rel)), (∀ e, l.mapM (relP ds nms pl ad) = .error e → l.mapM (relW ds nms pl ad) = .error e) ∧ ∀ ts, l.mapM (relP ds nms pl ad) = .ok ts → ∃ ws, l.mapM (relW ds nms pl ad) = .ok ws ∧ ∀ m, ws.flatten.foldl wr m = ts.foldl wr m
  | [] => ⟨(fun e h => nomatch h), fun ts h => by
    cases h
    exact ⟨[], rfl, fun m => rfl⟩⟩
  | x :: r => by
    obtain ⟨a1, a2⟩ := relW_P (ds := ds) (nms := nms) (pl := pl) (ad := ad) x
    obtain ⟨b1, b2⟩ := relWs_P r
    rw [List.mapM_cons, List.mapM_cons]
    cases hx : relP ds nms pl ad x with
    | error e =>
      rw [a1 e hx]
      exact ⟨fun e' h => by cases h; rfl, fun t h => nomatch h⟩
    | ok t =>
      obtain ⟨l, hl, hlm⟩ := a2 t hx
      rw [hl]
      cases hr : r.mapM (relP ds nms pl ad) with
      | error e =>
        rw [b1 e hr]
        exact ⟨fun e' h => by cases h; rfl, fun t h => nomatch h⟩
      | ok ts =>
        obtain ⟨ws, hws, hwm⟩ := b2 ts hr
        rw [hws]
        refine ⟨(fun e h => nomatch h), fun t' h => ?_⟩
        cases h
        refine ⟨_, rfl, fun m => ?_⟩
        rw [List.flatten_cons, List.foldl_append, hlm, hwm]
        rfl
theorem fill_eq (hp : PlA b ds nms pl ad) {o : Nat} {d : OD} {r : Sn17.Rel} {z : Addr × Sn17.Sec} {y : Addr × Sn17.Sym} (ho : ds[o]? = some d) (hz : d.zs[r.sec]? = some z) (hl : z.2.loads = true) (hy : d.zy[r.sym]? = some y) :
    (wOf b (ds.map OD.obj) (nms.map mnS)).fill o d.obj r = (relP ds nms pl ad (d, r)).map (cv (begs b (szs ((allK ds).map kS) (nms.map mnS)))) := by
  have hx : ((o, r.sec), z) ∈ allK ds := mem_allK.mpr ⟨d, ho, hz⟩
  obtain ⟨_, hpos⟩ := hp.pos _ hx hl
  unfold Sn17.Whole.fill
  have h1 : (wOf b (ds.map OD.obj) (nms.map mnS)).secAt o r.sec = some (pl z.1).2 := by rw [secAt_eq hp ho hz, if_pos hl]
  have h2 : d.obj.syms[r.sym]? = some y.2 := by
    show (d.zy.map (·.2))[r.sym]? = _
    rw [List.getElem?_map, hy]
    rfl
  rw [h1, h2]
  have h3 : (if y.2.bind = 0 then (wOf b (ds.map OD.obj) (nms.map mnS)).here o y.2 else (wOf b (ds.map OD.obj) (nms.map mnS)).name y.2.name) = tgt ds nms pl ad d y.2 := by
    unfold tgt
    rw [here_eq hp ho, name_eq hp]
  dsimp only
  rw [h3]
  unfold relP
  rw [hz, hy]
  dsimp only
  cases tgt ds nms pl ad d y.2 with
  | none => rfl
  | some v =>
    dsimp only
    have hpos' : (pl z.1).2 = begs b (szs ((allK ds).map kS) (nms.map mnS)) (Sn17.classOf z.2) + (pl z.1).1 := hpos
    by_cases ht : r.type = 0
    · rw [if_pos ht]
      have hf : Sn17.filled r.type v r.more ((pl z.1).2 + r.offset) = .ok (0, 0) := by
        unfold Sn17.filled
        dsimp only
        rw [if_pos ht]
      rw [hf]
      show Except.ok ((pl z.1).2 + r.offset, Sn17.put 0 0) = Except.ok (cv _ _)
      unfold cv
      rw [hpos', Nat.add_assoc]
      rfl
    · rw [if_neg ht, Mx.filled_eq ht]
      cases Mx.valP r.type ((v : Int) + r.more) ((pl z.1).2 + r.offset) with
      | error e => rfl
      | ok n =>
        show Except.ok ((pl z.1).2 + r.offset, Sn17.put (Mx.widthOf r.type) n) = Except.ok (cv _ _)
        unfold cv
        rw [hpos', Nat.add_assoc]
theorem fills_eq (hp : PlA b ds nms pl ad) (hr : ∀ d ∈ ds, ∀ z ∈ d.zr, ∃ s y, d.zs[z.2.sec]? = some s ∧ s.2.loads = true ∧ d.zy[z.2.sym]? = some y) :
    (wOf b (ds.map OD.obj) (nms.map mnS)).fills = ((rp ds).mapM (relP ds nms pl ad)).map (List.map (cv (begs b (szs ((allK ds).map kS) (nms.map mnS))))) := by
  unfold Sn17.Whole.fills
  show (((ds.map OD.obj).zipIdx.mapM fun (o : Sn17.Obj × Nat) => o.1.rels.mapM fun r => (wOf b (ds.map OD.obj) (nms.map mnS)).fill o.2 o.1 r).map fun l => l.flatten) = _
  rw [zip_map, Mx.mapM_map]
  have e1 : (ds.zipIdx.mapM fun x => x.1.obj.rels.mapM fun r => (wOf b (ds.map OD.obj) (nms.map mnS)).fill x.2 x.1.obj r) = ds.zipIdx.mapM fun x => (x.1.zr.map fun z => (x, z.2)).mapM fun t => (wOf b (ds.map OD.obj) (nms.map mnS)).fill t.1.2 t.1.1.obj t.2 := Mx.mapM_congr fun x _ => by
    show (x.1.zr.map (·.2)).mapM _ = _
    rw [Mx.mapM_map, Mx.mapM_map]
  rw [e1]
  have e2 := Mx.mapM_flat (g := fun x : OD × Nat => x.1.zr.map fun z => (x, z.2)) (f := fun t => (wOf b (ds.map OD.obj) (nms.map mnS)).fill t.1.2 t.1.1.obj t.2) ds.zipIdx
  refine Eq.trans e2 ?_
  have e3 : ((ds.zipIdx.flatMap fun x => x.1.zr.map fun z => (x, z.2)).mapM fun t => (wOf b (ds.map OD.obj) (nms.map mnS)).fill t.1.2 t.1.1.obj t.2) = (ds.zipIdx.flatMap fun x => x.1.zr.map fun z => (x, z.2)).mapM fun t => (relP ds nms pl ad (t.1.1, t.2)).map (cv (begs b (szs ((allK ds).map kS) (nms.map mnS)))) := Mx.mapM_congr fun t mt => by
    obtain ⟨⟨d, o⟩, m1, m2⟩ := List.mem_flatMap.mp mt
    obtain ⟨z, mz, rfl⟩ := List.mem_map.mp m2
    obtain ⟨_, ho⟩ := mem_zip m1
    obtain ⟨s, y, h1, h2, h3⟩ := hr d (List.mem_of_getElem? ho) z mz
    exact fill_eq hp ho h1 h2 h3
  rw [e3, Mx.mapM_post]
  congr 1
  have e4 : (ds.zipIdx.flatMap fun x => x.1.zr.map fun z => (x, z.2)).map (fun t => (t.1.1, t.2)) = rp ds := by
    unfold rp
    have go : ∀ (l : List OD) (n : Nat), ((l.zipIdx n).flatMap fun x => x.1.zr.map fun z => (x, z.2)).map (fun t => (t.1.1, t.2)) = l.flatMap fun d => d.zr.map fun z => (d, z.2) := by
      intro l
      induction l with
      | nil => intro n; rfl
      | cons d r ih =>
        intro n
        rw [List.zipIdx_cons, List.flatMap_cons, List.flatMap_cons, List.map_append, ih, List.map_map]
        rfl
    exact go ds 0
  rw [← e4, Mx.mapM_map]
end
/-! ### images -/
def cat (m : Nat → List Nat) : List Nat := Mx.pad (m 0) ++ (Mx.pad (m 1) ++ Mx.pad (m 2))
theorem pad_to {l : List Nat} {n : Nat} (h : l.length = n) : Mx.pad l = l ++ List.replicate (Sn17.up n 4096 - n) 0 := by
  unfold Mx.pad
  rw [h]
theorem over_cat {b : Nat} {sz g : Nat → Nat} {m : Nat → List Nat} {x : Wr} (hl : ∀ c, c < 3 → (m c).length = sz c) (hx : WIn sz x) (g0 : g 0 = b) (g1 : g 1 = b + Sn17.up (sz 0) 4096) (g2 : g 2 = b + Sn17.up (sz 0) 4096 + Sn17.up (sz 1) 4096) :
    Sn17.over b (cat m) (cv g x) = cat (wr m x) := by
  have hw := wr_len hl hx
  obtain ⟨c, k, bs⟩ := x
  obtain ⟨hc, hk⟩ := hx
  dsimp only at hc hk
  have l0 := hl 0 (by decide)
  have l1 := hl 1 (by decide)
  have l2 := hl 2 (by decide)
  have w0 := hw 0 (by decide)
  have w1 := hw 1 (by decide)
  have w2 := hw 2 (by decide)
  unfold cat cv
  rw [pad_to l0, pad_to l1, pad_to l2, pad_to w0, pad_to w1, pad_to w2]
  have u0 := Mx.up_ge (n := sz 0) (a := 4096) (by decide)
  have u1 := Mx.up_ge (n := sz 1) (a := 4096) (by decide)
  have same : ∀ c', c' ≠ c → wr m (c, k, bs) c' = m c' := fun c' n => by
    unfold wr
    rw [if_neg n]
  have this : wr m (c, k, bs) c = (m c).take k ++ bs ++ (m c).drop (k + bs.length) := by
    unfold wr
    rw [if_pos rfl]
  have hcase : c = 0 ∨ c = 1 ∨ c = 2 := by omega
  rcases hcase with e | e | e <;> subst e
  · rw [same 1 (by decide), same 2 (by decide), this]
    have z := Mx.over_mid [] (m 0) (List.replicate (Sn17.up (sz 0) 4096 - sz 0) 0) (m 1 ++ List.replicate (Sn17.up (sz 1) 4096 - sz 1) 0 ++ (m 2 ++ List.replicate (Sn17.up (sz 2) 4096 - sz 2) 0)) bs b k (by omega)
    simp only [List.nil_append, List.length_nil, Nat.add_zero] at z
    show Sn17.over b _ (g 0 + k, bs) = _
    rw [g0]
    exact z
  · rw [same 0 (by decide), same 2 (by decide), this]
    have z := Mx.over_mid (m 0 ++ List.replicate (Sn17.up (sz 0) 4096 - sz 0) 0) (m 1) (List.replicate (Sn17.up (sz 1) 4096 - sz 1) 0) (m 2 ++ List.replicate (Sn17.up (sz 2) 4096 - sz 2) 0) bs b k (by omega)
    have ea : (m 0 ++ List.replicate (Sn17.up (sz 0) 4096 - sz 0) 0).length = Sn17.up (sz 0) 4096 := by
      rw [List.length_append, List.length_replicate, l0]
      omega
    rw [ea] at z
    show Sn17.over b _ (g 1 + k, bs) = _
    rw [g1]
    exact z
  · rw [same 0 (by decide), same 1 (by decide), this]
    have z := Mx.over_mid ((m 0 ++ List.replicate (Sn17.up (sz 0) 4096 - sz 0) 0) ++ (m 1 ++ List.replicate (Sn17.up (sz 1) 4096 - sz 1) 0)) (m 2) (List.replicate (Sn17.up (sz 2) 4096 - sz 2) 0) [] bs b k (by omega)
    have ea : ((m 0 ++ List.replicate (Sn17.up (sz 0) 4096 - sz 0) 0) ++ (m 1 ++ List.replicate (Sn17.up (sz 1) 4096 - sz 1) 0)).length = Sn17.up (sz 0) 4096 + Sn17.up (sz 1) 4096 := by
      simp only [List.length_append, List.length_replicate, l0, l1]
      omega
    rw [ea] at z
    rw [List.append_nil, List.append_nil, List.append_assoc (m 0 ++ List.replicate (Sn17.up (sz 0) 4096 - sz 0) 0) (m 1 ++ List.replicate (Sn17.up (sz 1) 4096 - sz 1) 0), List.append_assoc (m 0 ++ List.replicate (Sn17.up (sz 0) 4096 - sz 0) 0) (m 1 ++ List.replicate (Sn17.up (sz 1) 4096 - sz 1) 0)] at z
    show Sn17.over b _ (g 2 + k, bs) = _
    rw [g2, Nat.add_assoc b]
    exact z
theorem over_cats {b : Nat} {sz g : Nat → Nat} (g0 : g 0 = b) (g1 : g 1 = b + Sn17.up (sz 0) 4096) (g2 : g 2 = b + Sn17.up (sz 0) 4096 + Sn17.up (sz 1) 4096) : ∀ {l : List Wr} {m : Nat → List Nat}, (∀ x ∈ l, WIn sz x) → (∀ c, c < 3 → (m c).length = sz c) → (l.map (cv g)).foldl (Sn17.over b) (cat m) = cat (l.foldl wr m)
  | [], m, _, _ => rfl
  | x :: r, m, hx, hl => by
    rw [List.map_cons, List.foldl_cons, List.foldl_cons, over_cat hl (hx x (List.mem_cons_self ..)) g0 g1 g2]
    exact over_cats g0 g1 g2 (fun y hy => hx y (List.mem_cons_of_mem _ hy)) (wr_len hl (hx x (List.mem_cons_self ..)))
theorem cat_zero (sz : Nat → Nat) : cat (fun c => List.replicate (sz c) 0) = List.replicate (Sn17.up (sz 0) 4096 + (Sn17.up (sz 1) 4096 + Sn17.up (sz 2) 4096)) 0 := by
  have h : ∀ n, Mx.pad (List.replicate n 0) = List.replicate (Sn17.up n 4096) 0 := fun n => by
    have u := Mx.up_ge (n := n) (a := 4096) (by decide)
    unfold Mx.pad
    rw [List.length_replicate, List.replicate_append_replicate]
    congr 1
    omega
  unfold cat
  rw [h, h, h, List.replicate_append_replicate, List.replicate_append_replicate]
section
variable {b : Nat} {ds : List OD} {nms : List (NR × PM)} {pl : Addr → Nat × Nat} {ad : Addr → Nat}
theorem secs_eq (hp : PlA b ds nms pl ad) : ((Sn17.allSecs (ds.map OD.obj)).filterMap fun y => if y.2.type = Sn17.NOBITS then none else ((wOf b (ds.map OD.obj) (nms.map mnS)).secAt y.1.1 y.1.2).map fun p => (p, ((((wOf b (ds.map OD.obj) (nms.map mnS)).objs[y.1.1]?).map fun o => o.bytes).getD []).drop y.2.offset |>.take y.2.size)) =
    (secWs pl ds).map (cv (begs b (szs ((allK ds).map kS) (nms.map mnS)))) := by
  rw [← allK_secs ds]
  generalize hF : (fun y : Mx.Keyed => if y.2.type = Sn17.NOBITS then none else ((wOf b (ds.map OD.obj) (nms.map mnS)).secAt y.1.1 y.1.2).map fun p => (p, ((((wOf b (ds.map OD.obj) (nms.map mnS)).objs[y.1.1]?).map fun o => o.bytes).getD []).drop y.2.offset |>.take y.2.size)) = F
  have hone : ∀ (o : Nat) (d : OD) (k : Nat) (z : Addr × Sn17.Sec), ds[o]? = some d → d.zs[k]? = some z → F (kS ((o, k), z)) = if (z.2.loads && z.2.type != 8) = true then some (cv (begs b (szs ((allK ds).map kS) (nms.map mnS))) (Sn17.classOf z.2, (pl z.1).1, secBytes d.bytes z.2)) else none := fun o d k z ho hk => by
    have hob : ((wOf b (ds.map OD.obj) (nms.map mnS)).objs[o]?) = some d.obj := by
      show (ds.map OD.obj)[o]? = _
      rw [List.getElem?_map, ho]
      rfl
    rw [← hF]
    show (if z.2.type = Sn17.NOBITS then none else ((wOf b (ds.map OD.obj) (nms.map mnS)).secAt o k).map fun p => (p, ((((wOf b (ds.map OD.obj) (nms.map mnS)).objs[o]?).map fun o => o.bytes).getD []).drop z.2.offset |>.take z.2.size)) = _
    rw [secAt_eq hp ho hk, hob]
    by_cases h8 : z.2.type = 8
    · rw [if_pos (show z.2.type = Sn17.NOBITS from h8), if_neg]
      rw [h8]
      simp
    · rw [if_neg (show ¬ z.2.type = Sn17.NOBITS from h8)]
      by_cases hl : z.2.loads = true
      · rw [if_pos hl, if_pos (by rw [hl, bne_iff_ne.mpr h8]; rfl)]
        obtain ⟨_, h2⟩ := hp.pos _ (mem_allK.mpr ⟨d, ho, hk⟩) hl
        show some ((pl z.1).2, secBytes d.bytes z.2) = some (_ + (pl z.1).1, secBytes d.bytes z.2)
        rw [← h2]
      · rw [if_neg hl, if_neg (by
          intro w
          rw [Bool.and_eq_true] at w
          exact hl w.1)]
        rfl
  clear hF
  have inner : ∀ (o : Nat) (d : OD), ds[o]? = some d → ∀ (l : List ((Addr × Sn17.Sec) × Nat)), (∀ z ∈ l, d.zs[z.2]? = some z.1) → ((l.map fun z => (((o, z.2), z.1) : KZ)).map kS).filterMap F = (secW pl d (l.map (·.1))).map (cv (begs b (szs ((allK ds).map kS) (nms.map mnS)))) := by
    intro o d ho l
    induction l with
    | nil => intro _; rfl
    | cons z r ih =>
      intro hl
      have ih := ih fun y hy => hl y (List.mem_cons_of_mem _ hy)
      have h1 := hone o d z.2 z.1 ho (hl z (List.mem_cons_self ..))
      rw [List.map_cons, List.map_cons, List.filterMap_cons, h1, ih]
      unfold secW
      rw [List.map_cons, List.filter_cons]
      by_cases hc : (z.1.2.loads && z.1.2.type != 8) = true
      · rw [if_pos hc, if_pos hc]
        rfl
      · rw [if_neg hc, if_neg hc]
  have outer : ∀ (l : List (OD × Nat)), (∀ x ∈ l, ds[x.2]? = some x.1) → ((l.flatMap fun d => d.1.zs.zipIdx.map fun z => (((d.2, z.2), z.1) : KZ)).map kS).filterMap F = (l.flatMap fun d => secW pl d.1 d.1.zs).map (cv (begs b (szs ((allK ds).map kS) (nms.map mnS)))) := by
    intro l
    induction l with
    | nil => intro _; rfl
    | cons x r ih =>
      intro hl
      have ih := ih fun y hy => hl y (List.mem_cons_of_mem _ hy)
      rw [List.flatMap_cons, List.flatMap_cons, List.map_append, List.map_append, List.filterMap_append, ih, inner x.2 x.1 (hl x (List.mem_cons_self ..)) x.1.zs.zipIdx (fun z mz => by
        obtain ⟨z1, z2⟩ := z
        exact (mem_zip mz).2), zip_fst]
  have e : secWs pl ds = ds.zipIdx.flatMap fun d => secW pl d.1 d.1.zs := by
    unfold secWs
    have go : ∀ (l : List OD) (n : Nat), (l.zipIdx n).flatMap (fun d => secW pl d.1 d.1.zs) = l.flatMap fun d => secW pl d d.zs := by
      intro l
      induction l with
      | nil => intro n; rfl
      | cons d r ih =>
        intro n
        rw [List.zipIdx_cons, List.flatMap_cons, List.flatMap_cons, ih]
    exact (go ds 0).symm
  rw [e]
  exact outer ds.zipIdx fun x mx => by
    obtain ⟨x1, x2⟩ := x
    exact (mem_zip mx).2
def szF (l : List Nat) (c : Nat) : Nat := l.getD c 0
theorem image_eq (hp : PlA b ds nms pl ad) {ts : List Wr} (hs : ∀ x ∈ secWs pl ds, WIn (szF (szs ((allK ds).map kS) (nms.map mnS))) x) (ht : ∀ x ∈ ts, WIn (szF (szs ((allK ds).map kS) (nms.map mnS))) x) :
    (wOf b (ds.map OD.obj) (nms.map mnS)).image (ts.map (cv (begs b (szs ((allK ds).map kS) (nms.map mnS))))) = cat (ts.foldl wr ((secWs pl ds).foldl wr fun c => List.replicate (szF (szs ((allK ds).map kS) (nms.map mnS)) c) 0)) := by
  unfold Sn17.Whole.image
  show (((Sn17.allSecs (ds.map OD.obj)).filterMap fun y => if y.2.type = Sn17.NOBITS then none else ((wOf b (ds.map OD.obj) (nms.map mnS)).secAt y.1.1 y.1.2).map fun p => (p, ((((wOf b (ds.map OD.obj) (nms.map mnS)).objs[y.1.1]?).map fun o => o.bytes).getD []).drop y.2.offset |>.take y.2.size)) ++ _).foldl (Sn17.over b) (List.replicate (((wOf b (ds.map OD.obj) (nms.map mnS)).sizes.take 3).map fun n => Sn17.up n 4096).sum 0) = _
  rw [secs_eq hp, ← List.map_append, wOf_sizes, ← allK_secs ds]
  have hn : (((szs ((allK ds).map kS) (nms.map mnS)).take 3).map fun n => Sn17.up n 4096).sum = Sn17.up (szF (szs ((allK ds).map kS) (nms.map mnS)) 0) 4096 + (Sn17.up (szF (szs ((allK ds).map kS) (nms.map mnS)) 1) 4096 + Sn17.up (szF (szs ((allK ds).map kS) (nms.map mnS)) 2) 4096) := by
    unfold szs szF
    simp
  rw [hn, ← cat_zero, ← List.foldl_append]
  refine over_cats (sz := szF (szs ((allK ds).map kS) (nms.map mnS))) ?_ ?_ ?_ (fun x mx => ?_) fun c _ => List.length_replicate
  · rfl
  · unfold szs
    rw [begs_eq hp.hb (by decide)]
    simp [szF]
  · unfold szs
    rw [begs_eq hp.hb (by decide)]
    simp [szF]
    omega
  · rcases List.mem_append.mp mx with m | m
    · exact hs x m
    · exact ht x m
end
end Lk

set_option Elab.async false
set_option linter.all false
set_option maxRecDepth 100000
set_option maxHeartbeats 4000000
/-! # Plain law: the file, the memory, the names, the whole link -/
namespace Lk
open PySem PySem.Spec PyProof.Rows L2 Evl He
section
variable {b : Nat} {ds : List OD} {nms : List (NR × PM)} {pl : Addr → Nat × Nat} {ad : Addr → Nat}
theorem filt_congr {α : Type} {p q : α → Bool} : ∀ {l : List α}, (∀ x ∈ l, p x = q x) → l.filter p = l.filter q
  | [], _ => rfl
  | x :: r, h => by
    rw [List.filter_cons, List.filter_cons, h x (List.mem_cons_self ..), filt_congr fun y hy => h y (List.mem_cons_of_mem _ hy)]
theorem flat_congr {α β : Type} {p q : α → List β} : ∀ {l : List α}, (∀ x ∈ l, p x = q x) → l.flatMap p = l.flatMap q
  | [], _ => rfl
  | x :: r, h => by
    rw [List.flatMap_cons, List.flatMap_cons, h x (List.mem_cons_self ..), flat_congr fun y hy => h y (List.mem_cons_of_mem _ hy)]
theorem flat_len {α β : Type} {p : α → List β} {k : Nat} : ∀ {l : List α}, (∀ x ∈ l, (p x).length = k) → (l.flatMap p).length = k * l.length
  | [], _ => rfl
  | x :: r, h => by
    rw [List.flatMap_cons, List.length_append, flat_len fun y hy => h y (List.mem_cons_of_mem _ hy), h x (List.mem_cons_self ..), List.length_cons, Nat.mul_succ]
    omega
theorem part_eq (r p a f s : Nat) : Sn17.part r p a f s = Mx.phOf r p a f s := by
  unfold Sn17.part Mx.phOf Mx.phA Sn17.PAGE
  simp only [List.append_assoc]
theorem file_eq (hb : b % 4096 = 0) (os : List Sn17.Obj) (nm : List (List Nat × Sn17.Meant)) (entry : Nat) (m : Nat → List Nat) :
    (wOf b os nm).file entry (cat m) = Mx.fileOf b entry (begs b (szs (Sn17.allSecs os) nm)) (szF (szs (Sn17.allSecs os) nm)) m := by
  unfold Sn17.Whole.file Mx.fileOf
  dsimp only
  rw [wOf_sizes]
  generalize hz : szs (Sn17.allSecs os) nm = sz
  have hparts : (List.range 4).filter (fun c => sz.getD c 0 != 0) = Mx.nums (szF sz) := filt_congr fun c _ => by
    unfold szF
    by_cases h : sz.getD c 0 = 0
    · rw [h]; rfl
    · rw [bne_iff_ne.mpr h, decide_eq_true (by omega)]
  rw [hparts]
  have hheads : (Mx.nums (szF sz)).flatMap (fun c => Sn17.part (if c = 0 then 5 else if c = 1 then 4 else 6) (if c = 3 then 0 else Sn17.PAGE + ((wOf b os nm).start c - b)) ((wOf b os nm).start c) (if c = 3 then 0 else sz.getD c 0) (sz.getD c 0)) = (Mx.nums (szF sz)).flatMap (Mx.phC b (begs b sz) (szF sz)) := flat_congr fun c mc => by
    have hc : c < 4 := List.mem_range.mp (List.mem_filter.mp mc).1
    have hst : (wOf b os nm).start c = begs b sz c := by rw [start_eq hb hc, hz]
    have hge : b ≤ begs b sz c := by
      rw [← hz]
      exact begs_ge hb hc
    rw [hst, part_eq]
    unfold Mx.phC szF
    have e1 : (if c = 0 then 5 else if c = 1 then 4 else 6) = Mx.rightsOf c := by
      have hcase : c = 0 ∨ c = 1 ∨ c = 2 ∨ c = 3 := by omega
      rcases hcase with e | e | e | e <;> subst e <;> rfl
    have e2 : Sn17.PAGE + (begs b sz c - b) = 4096 + begs b sz c - b := by
      unfold Sn17.PAGE
      omega
    rw [e1, e2]
  have hh : (wOf b os nm).base = b := rfl
  rw [hh, hheads]
  have hl := Mx.nums_len (szF sz)
  generalize hk : (Mx.nums (szF sz)).flatMap (Mx.phC b (begs b sz) (szF sz)) = heads
  have hhl : heads.length ≤ 224 := by
    rw [← hk, flat_len (k := 56) (fun c _ => by
      unfold Mx.phC
      exact Mx.phOf_len ..)]
    omega
  have e3 : ([127, 69, 76, 70, 2, 1, 1, 0] ++ (Sn17.put 8 0 ++ (Sn17.put 2 2 ++ (Sn17.put 2 62 ++ (Sn17.put 4 1 ++ (Sn17.put 8 entry ++ (Sn17.put 8 64 ++ (Sn17.put 8 0 ++ (Sn17.put 4 0 ++ (Sn17.put 2 64 ++ (Sn17.put 2 56 ++ (Sn17.put 2 (Mx.nums (szF sz)).length ++ (Sn17.put 2 64 ++ Sn17.put 4 0))))))))))))) = Mx.hdrOf entry (Mx.nums (szF sz)).length := by
    unfold Mx.hdrOf Mx.hdrB Mx.hdrA
    have z : ([127, 69, 76, 70, 2, 1, 1] ++ List.replicate 9 0 : List Nat) = [127, 69, 76, 70, 2, 1, 1, 0] ++ Sn17.put 8 0 := rfl
    rw [z]
    simp only [List.append_assoc]
  rw [e3]
  generalize hA : Mx.hdrOf entry (Mx.nums (szF sz)).length ++ heads = A
  have hAl : 64 ≤ A.length ∧ A.length ≤ 288 := by
    rw [← hA, List.length_append, Mx.hdrOf_len]
    omega
  have e4 : Sn17.up A.length 4096 = 4096 := by
    unfold Sn17.up
    omega
  unfold Mx.pad cat Sn17.PAGE
  rw [e4]
  unfold Mx.pad
  simp only [List.append_assoc]
theorem file_len {bg : Nat → Nat} {sz : Nat → Nat} {m : Nat → List Nat} {entry : Nat} (h : ∀ c, c < 3 → (m c).length = sz c) : (Mx.fileOf b entry bg sz m).length = 4096 + ([sz 0, sz 1, sz 2].map fun n => Sn17.up n 4096).sum := by
  unfold Mx.fileOf
  have hl := Mx.nums_len sz
  have hd : (Mx.hdrOf entry (Mx.nums sz).length ++ (Mx.nums sz).flatMap (Mx.phC b bg sz)).length = 64 + 56 * (Mx.nums sz).length := by
    rw [List.length_append, Mx.hdrOf_len, flat_len (k := 56) (fun c _ => by
      unfold Mx.phC
      exact Mx.phOf_len ..)]
  rw [List.length_append, List.length_append, List.length_append, Mx.pad_len, Mx.pad_len, Mx.pad_len, Mx.pad_len, hd, h 0 (by decide), h 1 (by decide), h 2 (by decide)]
  have e4 : Sn17.up (64 + 56 * (Mx.nums sz).length) 4096 = 4096 := by
    unfold Sn17.up
    omega
  rw [e4]
  simp
  omega
/-! ### the memory -/
theorem sum_filter {α : Type} (p : α → Bool) (f : α → Nat) : ∀ l : List α, ((l.filter p).map f).sum = (l.map fun x => if p x = true then f x else 0).sum
  | [] => rfl
  | x :: r => by
    rw [List.map_cons, List.sum_cons, List.filter_cons, ← sum_filter p f r]
    by_cases h : p x = true
    · rw [if_pos h, if_pos h, List.map_cons, List.sum_cons]
    · rw [if_neg h, if_neg h, Nat.zero_add]
theorem sum_flat {α β : Type} (g : α → List β) (f : β → Nat) : ∀ l : List α, ((l.flatMap g).map f).sum = (l.map fun x => ((g x).map f).sum).sum
  | [] => rfl
  | x :: r => by rw [List.flatMap_cons, List.map_append, List.sum_append, List.map_cons, List.sum_cons, sum_flat g f r]
theorem sum_add {α : Type} (f g : α → Nat) : ∀ l : List α, (l.map fun x => f x + g x).sum = (l.map f).sum + (l.map g).sum
  | [] => rfl
  | x :: r => by
    rw [List.map_cons, List.map_cons, List.map_cons, List.sum_cons, List.sum_cons, List.sum_cons, sum_add f g r]
    omega
def memS (os : List Sn17.Obj) : Nat := ((Sn17.allSecs os).map fun s => if s.2.loads = true then s.2.size + s.2.align else 0).sum + ((Sn17.globals os).map fun g => if g.2.2.sec = Sn17.COMMON then g.2.2.size + g.2.2.value else 0).sum
theorem mem_secs (ds : List OD) : ((Sn17.allSecs (ds.map OD.obj)).map fun s => if s.2.loads = true then s.2.size + s.2.align else 0).sum = (ds.map secMem).sum := by
  rw [← allK_secs, List.map_map]
  have e : (allK ds).map ((fun s : Mx.Keyed => if s.2.loads = true then s.2.size + s.2.align else 0) ∘ kS) = (allZs ds).map fun z => if z.2.loads = true then z.2.size + z.2.align else 0 := by
    rw [← allK_zs, List.map_map]
    rfl
  rw [e]
  unfold allZs
  rw [sum_flat]
  congr 1
  refine List.map_congr_left fun d _ => ?_
  unfold secMem
  rw [sum_filter]
theorem mem_glob (ds : List OD) : ((Sn17.globals (ds.map OD.obj)).map fun g => if g.2.2.sec = Sn17.COMMON then g.2.2.size + g.2.2.value else 0).sum = (ds.map comMem).sum := by
  unfold Sn17.globals
  rw [zip_map, sum_flat, List.map_map]
  have go : ∀ (l : List OD) (n : Nat), ((l.zipIdx n).map ((fun x : Sn17.Obj × Nat => (((x.1.syms.filter fun s => s.bind != 0).map fun s => (s.name, x.2, s)).map fun g => if g.2.2.sec = Sn17.COMMON then g.2.2.size + g.2.2.value else 0).sum) ∘ fun x => (x.1.obj, x.2))).sum = (l.map comMem).sum := by
    intro l
    induction l with
    | nil => intro n; rfl
    | cons d r ih =>
      intro n
      rw [List.zipIdx_cons, List.map_cons, List.map_cons, List.sum_cons, List.sum_cons, ih]
      congr 1
      show ((((d.zy.map (·.2)).filter fun s => s.bind != 0).map fun s => (s.name, n, s)).map fun g : List Nat × Nat × Sn17.Sym => if g.2.2.sec = Sn17.COMMON then g.2.2.size + g.2.2.value else 0).sum = comMem d
      rw [List.map_map, Mx.filt_map (·.2) (fun s : Sn17.Sym => s.bind != 0) (fun z : Addr × Sn17.Sym => z.2.bind != 0) (fun _ => rfl), List.map_map, sum_filter]
      unfold comMem
      rw [sum_filter]
      congr 1
      refine List.map_congr_left fun z _ => ?_
      show (if (z.2.bind != 0) = true then (if z.2.sec = 65522 then z.2.size + z.2.value else 0) else 0) = _
      by_cases h1 : (z.2.bind != 0) = true
      · rw [if_pos h1, h1, Bool.true_and]
        by_cases h2 : z.2.sec = 65522
        · rw [if_pos h2, if_pos (beq_iff_eq.mpr h2)]
        · rw [if_neg h2, if_neg (fun w => h2 (beq_iff_eq.mp w))]
      · rw [if_neg h1, if_neg (fun w => by
          rw [Bool.and_eq_true] at w
          exact h1 w.1)]
  exact go ds 0
theorem mem_eq (ds : List OD) : memOf ds = memS (ds.map OD.obj) := by
  unfold memOf memS
  rw [mem_secs, mem_glob, sum_add]
/-! ### bounds -/
theorem al_of (h : ∀ o ∈ ds.map OD.obj, Mx.GoodO o) : ∀ z ∈ allZs ds, 1 ≤ z.2.align ∧ z.2.align ≤ 4096 := fun z m => by
  obtain ⟨d, md, mz⟩ := List.mem_flatMap.mp m
  exact (h d.obj (List.mem_map.mpr ⟨d, md, rfl⟩)).al z.2 (List.mem_map.mpr ⟨z, mz, rfl⟩)
theorem alK_of (h : ∀ o ∈ ds.map OD.obj, Mx.GoodO o) : ∀ y ∈ (allK ds).map kS, 1 ≤ y.2.align := fun y m => by
  obtain ⟨x, mx, rfl⟩ := List.mem_map.mp m
  have : x.2 ∈ allZs ds := by
    rw [← allK_zs]
    exact List.mem_map.mpr ⟨x, mx, rfl⟩
  exact (al_of h _ this).1
theorem sz_le (h : ∀ o ∈ ds.map OD.obj, Mx.GoodO o) (hm : memOf ds ≤ 4194304) (nm : List (List Nat × Sn17.Meant)) {c : Nat} (hc : c < 3) : szF (szs ((allK ds).map kS) nm) c ≤ 4194304 := by
  have e : szF (szs ((allK ds).map kS) nm) c = (Sn17.layClass c ((allK ds).map kS)).2 := by
    have hcase : c = 0 ∨ c = 1 ∨ c = 2 := by omega
    rcases hcase with e | e | e <;> subst e <;> rfl
  rw [e]
  refine Nat.le_trans (Mx.lay_sum _ (alK_of h)) (Nat.le_trans ?_ hm)
  rw [mem_eq]
  unfold memS
  rw [← allK_secs]
  exact Nat.le_add_right _ _
theorem place_le (hp : PlA b ds nms pl ad) (h : ∀ o ∈ ds.map OD.obj, Mx.GoodO o) {d : OD} (hd : d ∈ ds) {z : Addr × Sn17.Sec} (hz : z ∈ d.zs) (hl : z.2.loads = true) (h8 : z.2.type ≠ 8) :
    Sn17.classOf z.2 < 3 ∧ (pl z.1).1 + z.2.size ≤ szF (szs ((allK ds).map kS) (nms.map mnS)) (Sn17.classOf z.2) := by
  obtain ⟨o, ho⟩ := List.getElem?_of_mem hd
  obtain ⟨k, hk⟩ := List.getElem?_of_mem hz
  have hx : ((o, k), z) ∈ allK ds := mem_allK.mpr ⟨d, ho, hk⟩
  obtain ⟨h1, _⟩ := hp.pos _ hx hl
  obtain ⟨y, my, e1, e2, e3, e4⟩ := Mx.lay_le _ (alK_of h) _ _ h1
  obtain ⟨x, mx, ex⟩ := List.mem_map.mp my
  subst ex
  have e := Mx.nodup_inj (allK_nd ds) mx hx e1
  subst e
  have hc3 : Sn17.classOf z.2 < 3 := by
    unfold Sn17.classOf
    split
    · decide
    · split
      · decide
      · rw [if_neg (show ¬ z.2.type = Sn17.NOBITS from h8)]
        decide
  refine ⟨hc3, ?_⟩
  have e : szF (szs ((allK ds).map kS) (nms.map mnS)) (Sn17.classOf z.2) = (Sn17.layClass (Sn17.classOf z.2) ((allK ds).map kS)).2 := by
    generalize Sn17.classOf z.2 = c at hc3
    have hcase : c = 0 ∨ c = 1 ∨ c = 2 := by omega
    rcases hcase with e | e | e <;> subst e <;> rfl
  rw [e]
  exact e4
/-! ### the meanings -/
def MR (r : NR) : Sn17.R (List Nat × Sn17.Meant) := (Mx.settleP PR.s r.prs).map fun m => (r.n, m.to PR.g)
theorem mean_eq {ns : List NR} (hk : ns.map (·.n) = Sn17.once ((Sn17.globals (ds.map OD.obj)).map (·.1))) (hp : ∀ r ∈ ns, r.prs.map PR.g = ((Sn17.globals (ds.map OD.obj)).filter fun x => x.1 == r.n).map (·.2)) (hg : ∀ o ∈ ds.map OD.obj, Mx.GoodO o) (hin : ∀ r ∈ ns, ∀ p ∈ r.prs, PIn ds p) :
    Sn17.meanings (ds.map OD.obj) = ns.mapM MR := by
  unfold Sn17.meanings
  dsimp only
  rw [← hk, Mx.mapM_map]
  refine Mx.mapM_congr fun r mr => ?_
  rw [← hp r mr, Mx.settle_eq PR.g r.prs fun p mp => ?_]
  · unfold MR
    show (((Mx.settleP PR.s r.prs).map (Mx.PM.to PR.g)).map fun m => (r.n, m)) = _
    cases Mx.settleP PR.s r.prs <;> rfl
  · obtain ⟨d, h1, h2, h3⟩ := hin r mr p mp
    have hd := List.mem_of_getElem? h1
    have h4 := ((hg d.obj (List.mem_map.mpr ⟨d, hd, rfl⟩)).sym p.s (List.mem_map.mpr ⟨_, h3, rfl⟩)).1
    have h5 : PR.g p ∈ ((Sn17.globals (ds.map OD.obj)).filter fun x => x.1 == r.n).map (·.2) := by
      rw [← hp r mr]
      exact List.mem_map.mpr ⟨p, mp, rfl⟩
    obtain ⟨x, mx, ex⟩ := List.mem_map.mp h5
    have h6 := (List.mem_filter.mp mx).1
    unfold Sn17.globals at h6
    obtain ⟨o, _, h7⟩ := List.mem_flatMap.mp h6
    obtain ⟨s, ms, es⟩ := List.mem_map.mp h7
    have h8 := (List.mem_filter.mp ms).2
    have e9 : x.2.2 = s := by rw [← es]
    have e10 : p.s = s := by
      rw [← e9, ex]
      rfl
    have h11 : s.bind ≠ 0 := by simpa using h8
    show p.s.bind = 1 ∨ p.s.bind = 2
    rw [e10] at h4 ⊢
    omega
/-! ### the link -/
theorem start_is : Sn17.START = [95, 115, 116, 97, 114, 116] := by decide
theorem link_e1 {base : Nat} {files : List (List Nat)} {os : List Sn17.Obj} {e : Sn17.Bad} (h : files.mapM Sn17.object = .ok os) (hm : Sn17.meanings os = .error e) : Sn17.link base files = .error e := by
  unfold Sn17.link Sn17.whole
  rw [h]
  show ((Sn17.meanings os).map _).bind _ = _
  rw [hm]
  rfl
theorem link_is {base : Nat} {files : List (List Nat)} {os : List Sn17.Obj} {nm : List (List Nat × Sn17.Meant)} (h : files.mapM Sn17.object = .ok os) (hm : Sn17.meanings os = .ok nm) : Sn17.link base files = match nm.find? fun y => y.1 == Sn17.START with
    | none => .error .missing
    | some (_, .nothing) => .error .missing
    | some _ => match (wOf base os nm).name Sn17.START with
      | none => .error .kind
      | some e => (wOf base os nm).fills.map fun l => (wOf base os nm).file e ((wOf base os nm).image l) := by
  unfold Sn17.link
  rw [h]
  show (Sn17.whole base os).bind _ = _
  rw [whole_eq hm]
  rfl
theorem find_mn (nms : List (NR × PM)) (n : List Nat) : (nms.map mnS).find? (fun y => y.1 == n) = (nms.find? fun x => decide (x.1.n = n)).map mnS := find_map mnS _ _ (fun x => by
  show (x.1.n == n) = decide (x.1.n = n)
  by_cases h : x.1.n = n
  · rw [h, decide_eq_true rfl]
    simp
  · rw [decide_eq_false h]
    exact beq_eq_false_iff_ne.mpr h) nms
theorem link_e2 {base : Nat} {files : List (List Nat)} {os : List Sn17.Obj} (h : files.mapM Sn17.object = .ok os) (hm : Sn17.meanings os = .ok (nms.map mnS)) (hn : ∀ x, nms.find? (fun x => decide (x.1.n = Sn17.START)) = some x → isNo x.2 = true) : Sn17.link base files = .error .missing := by
  rw [link_is h hm, find_mn]
  cases hx : nms.find? (fun x => decide (x.1.n = Sn17.START)) with
  | none => rfl
  | some x =>
    obtain ⟨r, m⟩ := x
    have z := hn _ hx
    cases m with
    | nothing => rfl
    | sym p => cases z
    | common _ _ => cases z
theorem link_yes {base : Nat} {files : List (List Nat)} {os : List Sn17.Obj} {x : NR × PM} (h : files.mapM Sn17.object = .ok os) (hm : Sn17.meanings os = .ok (nms.map mnS)) (hx : nms.find? (fun x => decide (x.1.n = Sn17.START)) = some x) (hn : isNo x.2 = false) : Sn17.link base files = match (wOf base os (nms.map mnS)).name Sn17.START with
      | none => .error .kind
      | some e => (wOf base os (nms.map mnS)).fills.map fun l => (wOf base os (nms.map mnS)).file e ((wOf base os (nms.map mnS)).image l) := by
  rw [link_is h hm, find_mn, hx]
  obtain ⟨r, m⟩ := x
  cases m with
  | nothing => cases hn
  | sym p => rfl
  | common _ _ => rfl
def linkP (base : Nat) (sizes : List Nat) (b : List Nat) (most : Int) : Except Int (List Nat) := match (Sn17.cut sizes b).mapM Sn17.object with
  | .error e => .error e.code
  | .ok os => if 4194304 < memS os then .error (-4) else match Sn17.link base (Sn17.cut sizes b) with
    | .error e => .error e.code
    | .ok f => if most < (f.length : Int) then .error (-1) else .ok f
end
end Lk

set_option Elab.async false
set_option linter.all false
set_option maxRecDepth 100000
set_option maxHeartbeats 4000000
/-! # Objects linked -/
namespace Lk
open PySem PySem.Spec PyProof.Rows L2 Evl He
section
variable {b : Nat} {ds : List OD} {nms : List (NR × PM)} {pl : Addr → Nat × Nat} {ad : Addr → Nat}
theorem relP_in {sz : Nat → Nat} {d : OD} {z : Addr × Sn17.Rel} (h : RelsOk nms pl sz d) (hz : z ∈ d.zr) {t : Wr} (hl : relP ds nms pl ad (d, z.2) = .ok t) : WIn sz t := by
  obtain ⟨s, y, h1, h2, h3, h4, h5⟩ := h z hz
  unfold relP at hl
  rw [h1, h2] at hl
  dsimp only at hl
  cases hv : tgt ds nms pl ad d y.2 with
  | none =>
    rw [hv] at hl
    cases hl
  | some v =>
    rw [hv] at hl
    dsimp only at hl
    by_cases ht : z.2.type = 0
    · rw [if_pos ht] at hl
      cases hl
      refine ⟨h4, ?_⟩
      show (pl s.1).1 + z.2.offset + 0 ≤ sz (Sn17.classOf s.2)
      omega
    · rw [if_neg ht] at hl
      cases hq : Mx.valP z.2.type ((v : Int) + z.2.more) ((pl s.1).2 + z.2.offset) with
      | error e =>
        rw [hq] at hl
        cases hl
      | ok n =>
        rw [hq] at hl
        cases hl
        refine ⟨h4, ?_⟩
        show _ + (Sn17.put _ _).length ≤ sz (Sn17.classOf s.2)
        rw [Mx.put_len]
        exact h5
theorem settleP_com {α : Type} {sy : α → Sn17.Sym} {l : List α} {s a : Nat} (h : Mx.settleP sy l = .ok (.common s a)) (hv : ∀ x ∈ l, (sy x).sec = 65522 → (sy x).value ≤ 4096) : 1 ≤ a ∧ a ≤ 4096 := by
  unfold Mx.settleP at h
  split at h
  · cases h
  · split at h
    · cases h
    · split at h
      · rename_i x r e
        cases h
        refine ⟨?_, ?_⟩
        · unfold Mx.pMax
          exact Mx.le_max (.inr (Nat.le_refl _))
        · unfold Mx.pMax
          refine Mx.max_le (by decide) fun y hy => ?_
          obtain ⟨z, mz, rfl⟩ := List.mem_map.mp hy
          rw [← e] at mz
          obtain ⟨m1, m2⟩ := List.mem_filter.mp mz
          exact hv z m1 (of_decide_eq_true m2)
      · split at h
        · cases h
        · split at h <;> cases h
theorem cut_len : ∀ (s : List Nat) (b : List Nat), (Sn17.cut s b).length = s.length
  | [], _ => rfl
  | n :: r, b => by
    show (b.take n :: Sn17.cut r (b.drop n)).length = _
    rw [List.length_cons, cut_len r, List.length_cons]
end
/-- all but names stands -/
def UpN (H H' : Hp) : Prop := ∀ b o, H b = some o → kd o ≠ 6 → H' b = some o
theorem UpN.ex {H H' : Hp} (e : Ex H H') : UpN H H' := fun b o h _ => e b o h
theorem UpN.trans {H H' H2 : Hp} (u : UpN H H') (v : UpN H' H2) : UpN H H2 := fun b o h k => v b o (u b o h k) k
theorem UpN.k {H H' : Hp} (u : UpN H H') : UpK H H' := fun b o h _ k => u b o h k
theorem UpN.upN {H H' H2 : Hp} {a : Addr} {o : HO} (u : UpN H H') (h : H' a = some o) (k : kd o = 6) (v : Up a H' H2) : UpN H H2 := fun b ob hb k2 => by
  have h1 := u b ob hb k2
  refine v b ob h1 fun z => ?_
  subst z
  rw [h] at h1
  cases h1
  exact k2 k
theorem upn_unlock {H H' : Hp} {d : Addr} {u : HO} {od : Obj} (h : H d = some u) (v : UpN (upd H d (.frz od u)) H') : UpN H (upd H' d u) := fun b ob hb k2 => by
  by_cases z : b = d
  · subst z
    rw [upd_same, ← hb, h]
  · rw [upd_ne z]
    exact v _ _ (by rw [upd_ne z]; exact hb) k2
theorem UpN.wd {K : PySem.W.Frag} {H H' : Hp} {ds : List OD} {pl : Addr → Nat × Nat} (u : UpN H H') (h : Wd K H ds pl) : Wd K H' ds pl := u.k.wd h fun z m => by
  obtain ⟨d, md, mz⟩ := List.mem_flatMap.mp m
  obtain ⟨dx, hs⟩ := (h.obj d md).sec z mz
  exact ⟨dx, u _ _ hs (show 10 ≠ 6 by decide)⟩
theorem ev_dinK {K : PySem.W.Frag} {σ : L2.St} {H : Hp} {ty td : TE} {a t : Addr} {kvs : List (List Key × V)} {k : List Key} (hy : Ev ty σ H (.ref t)) (hd : Ev td σ H (.ref a)) (h : H a = some (.dT kvs)) (ht : ∀ H, SqT K H t (k.map kV)) : Ev (tDInK K ty td) σ H (.bl (valV kvs k).isSome) := fun H1 e Q q =>
  hy H1 e _ fun H2 e2 => hd H2 (e.trans e2) _ fun H3 e3 => ⟨a, _, rfl, ⟨kvs, k, t, .inl (((e.trans e2).trans e3) _ _ h), rfl, ht H3, rfl⟩, q H3 (e2.trans e3)⟩
theorem ev_dgetK {K : PySem.W.Frag} {σ : L2.St} {H : Hp} {ty td : TE} {a t : Addr} {kvs : List (List Key × V)} {k : List Key} {v : V} (hd : Ev td σ H (.ref a)) (hy : Ev ty σ H (.ref t)) (h : H a = some (.dT kvs)) (ht : ∀ H, SqT K H t (k.map kV)) (hv : valV kvs k = some v) : Ev (tDGetK K td ty) σ H v := fun H1 e Q q =>
  hd H1 e _ fun H2 e2 => hy H2 (e.trans e2) _ fun H3 e3 => ⟨a, v, rfl, ⟨kvs, k, t, .inl (((e.trans e2).trans e3) _ _ h), rfl, ht H3, hv.symm⟩, q H3 (e2.trans e3)⟩
def spLinked (K : PySem.W.Frag) : Sp := fun vs H Q E => ∃ (b a l : Nat) (most : Int) (sizes by_ : List Nat), vs = [nv b, .ref a, .ref l, .int most] ∧ SqL K H a (iv sizes) ∧ sizes.length ≤ 64 ∧ Rw K H l by_ ∧ b % 4096 = 0 ∧
  (∀ f, linkP b sizes by_ most = .ok f → ∀ p H', H' p = some (.lst (iv f)) → Q (.ref p) H') ∧ (∀ e, linkP b sizes by_ most = .error e → Err K E e)
section
variable {P : Program} {w : World} {K : PySem.W.Frag} {mg : Str → Option Value} {base : Heap}
theorem ok_linked (T : Tx K mg) : Cal P w K mg base 10 "linked" (spLinked K) := by
  obtain ⟨fd, F⟩ := T.d_linked
  refine cal_of F T.g_linked sc_linked (fun vs H Q E h => ?_) (fun _ _ _ _ _ _ us hl => match us, hl with | [_, _, _, _], _ => rfl) (fun cdv A outer s H vs Q E hr h => ⟨_, (pss_cons (ps_set (i := 4) sc_linked.nd rfl (Or.inl rfl) (pe_cal (ok_objects_of T) (hr.mono (by decide)) (passes_call (takes_of rfl rfl rfl rfl) (fun _ _ _ _ h => h)) (pa_cons (pv 1) (pa_cons (pv 2) pa_nil))))
      (pss_cons (ps_expr (pe_cal (ok_check T) (hr.mono (by decide)) (passes_call (takes_of rfl rfl rfl rfl) (fun _ _ _ _ h => h)) (pa_cons (pe_cmpR op_le (pe_cal (ok_memory_of T) (hr.mono (by decide)) passL (pa_cons (pv 4) pa_nil)) (pe_gi T.v_MOST_MEMORY) (nomark _)) (pa_cons (pe_un un_neg pe_int) pa_nil))))
      (pss_cons (ps_set (i := 5) sc_linked.nd rfl (Or.inl rfl) (pe_cal (ok_names_of T) (hr.mono (by decide)) passL (pa_cons (pv 4) pa_nil)))
      (pss_cons (ps_lock (ps_for (passes_of rfl) rfl (pi_keys (pv 5)) (pg_name (i := 6) sc_linked.nd rfl (Or.inl rfl)) (pss_one (ps_expr (pe_met0 (ok_Name_settle T) (hr.mono (by decide)) (passes_call (takes_of rfl rfl rfl rfl) (fun _ _ _ _ h => h)) (pe_dget (hu_of hr) (pv 5) (pv 6) (fun _ _ => rfl)))))))
      (pss_cons (ps_expr (pe_cal (ok_check T) (hr.mono (by decide)) (passes_call (takes_of rfl rfl rfl rfl) (fun _ _ _ _ h => h)) (pa_cons (pe_and (pe_cmp (pc_dinKK (K := K) (hu_of hr) (pe_gr T.g_START) (pv 5)) rfl) (pe_one (pe_not (pe_met0 (ok_Name_is_nothing T) (hr.mono (by decide)) passL (pe_dgetKK (K := K) (hu_of hr) (pv 5) (pe_gr T.g_START) (fun _ _ => rfl)))))) (pa_cons (pe_un un_neg pe_int) pa_nil))))
      (pss_cons (ps_set (i := 7) sc_linked.nd rfl (Or.inl rfl) (pe_cal (ok_place_all T) (hr.mono (by decide)) passL (pa_cons (pv 0) (pa_cons (pv 4) (pa_cons (pv 5) pa_nil)))))
      (pss_cons (ps_set (i := 8) sc_linked.nd rfl (Or.inl rfl) (pe_met0 (ok_Name_whereabouts T) (hr.mono (by decide)) passL (pe_dgetKK (K := K) (hu_of hr) (pv 5) (pe_gr T.g_START) (fun _ _ => rfl))))
      (pss_cons (ps_expr (pe_cal (ok_check T) (hr.mono (by decide)) (passes_call (takes_of rfl rfl rfl rfl) (fun _ _ _ _ h => h)) (pa_cons (pe_cmpR op_notN (pv 8) pe_non (nomark _)) (pa_cons (pe_un un_neg pe_int) pa_nil))))
      (pss_cons (ps_set (i := 9) sc_linked.nd rfl (Or.inl rfl) (pe_cal (ok_images_of T) (hr.mono (by decide)) passL (pa_cons (pv 7) (pa_cons (pv 4) pa_nil))))
      (pss_cons (ps_expr (pe_cal (ok_relocate T) (hr.mono (by decide)) (passes_call (takes_of rfl rfl rfl rfl) (fun _ _ _ _ h => h)) (pa_cons (pv 4) (pa_cons (pv 5) (pa_cons (pv 9) pa_nil)))))
      (pss_cons (ps_expr (pe_cal (ok_check T) (hr.mono (by decide)) (passes_call (takes_of rfl rfl rfl rfl) (fun _ _ _ _ h => h)) (pa_cons (pe_cmpR op_le (pe_met0 (ok_Layout_file_size T) (hr.mono (by decide)) passL (pv 7)) (pv 3) (nomark _)) (pa_cons (pe_un un_neg pe_int) pa_nil))))
      (pss_one (ps_ret (pe_cal (ok_file_of T) (hr.mono (by decide)) passL (pa_cons (pv 7) (pa_cons (pv 9) (pa_cons (pv 8) pa_nil))))))))))))))))), ?_⟩)
  · obtain ⟨b, a, l, most, sizes, by_, rfl, _⟩ := h
    rfl
  · obtain ⟨b, a, l, most, sizes, by_, rfl, hA, hsl, hR, hb, q1, q2⟩ := h
    -- the objects
    refine q_asgX (ea_cons (ev_var rfl) (ea_cons (ev_var rfl) ea_nil)) fun H1 e1 => ?_
    refine ⟨a, l, sizes, by_, rfl, ex_l e1 hA, hsl, hR.mono e1, fun os hos p ds H2 np e2 hp2 hds W2 => ?_, fun e he => q2 _ ?_⟩
    rotate_left
    · unfold linkP
      rw [he]
    subst hds
    have hg := Mx.objects_good hos hR.len
    have hdl : ds.length ≤ 64 := by
      have z := Mx.mapM_len hos
      rw [List.length_map, cut_len] at z
      omega
    have hgd : ∀ d ∈ ds, Mx.GoodO d.obj := fun d m => hg d.obj (List.mem_map.mpr ⟨d, m, rfl⟩)
    have hzs : ∀ d ∈ ds, d.zs.length ≤ 1024 := fun d m => by
      have z := (hgd d m).nsec
      rw [show d.obj.secs = d.zs.map (·.2) from rfl, List.length_map] at z
      exact z
    have hzy : ∀ d ∈ ds, d.zy.length ≤ 2731 := fun d m => by
      have z := (hgd d m).nsym
      rw [show d.obj.syms = d.zy.map (·.2) from rfl, List.length_map] at z
      exact z
    have hP1 : ∀ e, memS (ds.map OD.obj) ≤ 4194304 → Sn17.link b (Sn17.cut sizes by_) = .error e → linkP b sizes by_ most = .error e.code := fun e hm he => by
      unfold linkP
      rw [hos]
      dsimp only
      rw [if_neg (by omega), he]
    have hP2 : ∀ f, memS (ds.map OD.obj) ≤ 4194304 → Sn17.link b (Sn17.cut sizes by_) = .ok f → linkP b sizes by_ most = if most < (f.length : Int) then .error (-1) else .ok f := fun f hm he => by
      unfold linkP
      rw [hos]
      dsimp only
      rw [if_neg (by omega), he]
    -- the memory
    refine q_check (b := decide (memOf ds ≤ 4194304)) (ev_leN (ev_cal (ea_cons (ev_var rfl) ea_nil) fun H3 e3 Q3 q3 E3 => ⟨p, ds, pl0, rfl, SqL.of (e3 _ _ hp2), W2.mono e3, fun d m => ⟨Nat.le_trans (hzs d m) (by decide), Nat.le_trans (hzy d m) (by decide)⟩, q3⟩) (ev_kN 4194304)) (ev_neg (-4)) (fun c1 H3 e3 => ?_) (fun c1 => q2 _ ?_)
    rotate_left
    · have z := of_decide_eq_false c1
      rw [mem_eq] at z
      unfold linkP
      rw [hos]
      dsimp only
      rw [if_pos (by omega)]
    have hmem : memOf ds ≤ 4194304 := of_decide_eq_true c1
    have hmemS : memS (ds.map OD.obj) ≤ 4194304 := by
      rw [← mem_eq]
      exact hmem
    have hP1 := fun e he => hP1 e hmemS he
    have hP2 := fun f he => hP2 f hmemS he
    have W3 := W2.mono e3
    have p3 := e3 _ _ hp2
    -- the names
    refine q_asgX (ea_cons (ev_var rfl) ea_nil) fun H4 e4 => ?_
    have W4 := W3.mono e4
    have p4 := e4 _ _ p3
    refine ⟨p, ds, pl0, rfl, SqL.of p4, W4, fun d m => Nat.le_trans (hzy d m) (by decide), hdl, fun fp ns H5 nfp N hk hgl hnl => ?_⟩
    have e05 : Ex H H5 := (((e1.trans e2).trans e3).trans e4).trans N.ex
    have W5 := W4.mono N.ex
    have p5 := N.ex _ _ p4
    have hin : ∀ r ∈ ns, ∀ q ∈ r.prs, PIn ds q := fun r m q mq => (N.at_ r m q mq).2
    have hME := mean_eq hk N.pr hg hin
    have hsymF : ∀ r ∈ ns, ∀ q ∈ r.prs, q.s.bind ≤ 2 ∧ (q.s.sec = 65522 → 1 ≤ q.s.value ∧ q.s.value ≤ 4096 ∧ q.s.bind ≠ 0) := fun r m q mq => by
      obtain ⟨d, h1, h2, h3⟩ := hin r m q mq
      have z := (hgd d (List.mem_of_getElem? h1)).sym q.s (List.mem_map.mpr ⟨_, h3, rfl⟩)
      exact ⟨z.1, z.2.2⟩
    -- what they mean
    refine ⟨fp, _, N.dict, trivial, fun od => ?_⟩
    generalize hHL : upd H5 fp (.frz od (.dT (nkv ns))) = HL
    have dL : HL fp = some (.frz od (.dT (nkv ns))) := by rw [← hHL]; exact upd_same
    have lk : ∀ {c : Addr} {o : HO}, H5 c = some o → o ≠ .dT (nkv ns) → HL c = some o := fun h1 h2 => by
      rw [← hHL]
      exact lock_of N.dict h1 h2
    have symL : ∀ {y : Addr} {s : Sn17.Sym}, SymAt K H5 y s → SymAt K HL y s := fun ⟨dc, tc, h1, h2⟩ => ⟨dc, tc, lk h1 (fun z => nomatch z), lk h2 (fun z => nomatch z)⟩
    have prL' : ∀ r ∈ ns, ∀ q ∈ r.prs, PrAt K HL q := fun r m q mq => ⟨lk (N.at_ r m q mq).1.1 (fun z => nomatch z), symL (N.at_ r m q mq).1.2⟩
    refine s_forKy (L := ns) (kf := fun r => kOf r.n) (vf := fun r => V.ref r.a) (d := fp) (o := od) (ev_var rfl) dL (fun pre σ' H' => ∃ (v6 : Option V) (mm : Addr → PM), σ' = [some (nv b), some (.ref a), some (.ref l), some (.int most), some (.ref p), some (.ref fp), v6, none, none, none] ∧ UpN HL H' ∧
      (∀ r ∈ ns, NmAt K H' r.a r.lp (mm r.a) 0) ∧ (∀ r ∈ ns, (∀ r' ∈ pre, r'.a ≠ r.a) → mm r.a = .nothing) ∧ pre.mapM MR = .ok (pre.map fun r => (r.n, (mm r.a).to PR.g)) ∧ ∀ r ∈ pre, Mx.settleP PR.s r.prs = .ok (mm r.a))
      (fun H6 e6 => ⟨none, fun _ => .nothing, rfl, UpN.ex e6, fun r m => (N.nm r m).elim fun dn h => ⟨dn, e6 _ _ (lk h (fun z => nomatch z))⟩, fun _ _ _ => rfl, rfl, fun r m => nomatch m⟩) (fun pre σ' H' pp => by
        obtain ⟨_, _, _, u, _⟩ := pp
        exact u _ _ dL (show 0 ≠ 6 by decide)) ?_ ?_
    · rintro pre r post σ' H' qa hsp ⟨v6, mm, rfl, u, hnm, hno, hmr, hst⟩ hqa
      have mr : r ∈ ns := by rw [hsp]; simp
      have apart : ∀ r' ∈ pre, r'.a ≠ r.a := fun r' m z => by
        have nd := N.nda
        rw [hsp, List.map_append, List.map_cons, List.nodup_append] at nd
        exact nd.2.2 _ (List.mem_map.mpr ⟨r', m, rfl⟩) _ (List.mem_cons_self ..) z
      have hr0 : mm r.a = .nothing := hno r mr apart
      have N0 := hnm r mr
      rw [hr0] at N0
      have dH := u _ _ dL (show 0 ≠ 6 by decide)
      refine e_dropM (o := r.a) (ev_dgetT (ev_var rfl) (ev_var rfl) (.inr ⟨od, dH⟩) hqa (val_in N.nd mr)) (hm_Name_settle N0) ea_nil fun H6 e6 => ?_
      have hpl := prs_len N mr
      refine ⟨r.a, r.lp, r.prs, rfl, N0.mono e6, e6 _ _ (u.k.lst (lk (N.lst r mr) (fun z => nomatch z))), fun q mq => ((u.k.pr (prL' r mr q mq)).mono e6), by omega, fun q mq hc => ((hsymF r mr q mq).2 hc).1, fun m hm H7 h7 u7 => ?_, fun e he => q2 _ (hP1 e (link_e1 hos ?_))⟩
      · have hMR : MR r = .ok (r.n, m.to PR.g) := by
          unfold MR
          rw [hm]
          rfl
        obtain ⟨dn, N6⟩ := N0.mono e6
        refine ⟨some (.ref qa), fun c => if c = r.a then m else mm c, rfl, (u.trans (UpN.ex e6)).upN N6 rfl u7, fun r' m' => ?_, fun r' m' hn => ?_, ?_, fun r' m' => ?_⟩
        · by_cases z : r'.a = r.a
          · have zz := Mx.nodup_inj N.nda m' mr z
            subst zz
            dsimp only
            rw [if_pos rfl]
            exact h7
          · dsimp only
            rw [if_neg z]
            obtain ⟨dn', h'⟩ := (hnm r' m').mono e6
            exact ⟨dn', u7 _ _ h' z⟩
        · have z : r'.a ≠ r.a := fun z => hn r (by simp) z.symm
          dsimp only
          rw [if_neg z]
          exact hno r' m' fun r2 m2 => hn r2 (List.mem_append_left _ m2)
        · have e : (pre ++ [r]).map (fun r' => (r'.n, (if r'.a = r.a then m else mm r'.a).to PR.g)) = pre.map (fun r' => (r'.n, (mm r'.a).to PR.g)) ++ [(r.n, m.to PR.g)] := by
            rw [List.map_append]
            congr 1
            · refine List.map_congr_left fun r' m' => ?_
              rw [if_neg (apart r' m')]
            · rw [List.map_cons, List.map_nil, if_pos rfl]
          show _ = Except.ok ((pre ++ [r]).map fun r' => (r'.n, (if r'.a = r.a then m else mm r'.a).to PR.g))
          rw [e]
          exact Mx.mapM_snoc hmr hMR
        · dsimp only
          rcases List.mem_append.mp m' with k | k
          · rw [if_neg (apart r' k)]
            exact hst r' k
          · have er : r' = r := by simpa using k
            subst er
            rw [if_pos rfl]
            exact hm
      · rw [hME, hsp]
        refine Mx.mapM_err hmr ?_
        unfold MR
        rw [he]
        rfl
    rintro σ' H6 ⟨v6, mm, rfl, u6, hnm6, hno6, hmr6, hst6⟩
    refine ⟨u6 _ _ dL (show 0 ≠ 6 by decide), ?_⟩
    have d6 := u6 _ _ dL (show 0 ≠ 6 by decide)
    have u57 : UpN H5 (upd H6 fp (.dT (nkv ns))) := upn_unlock N.dict (by rw [hHL]; exact u6)
    have nm7 : ∀ r ∈ ns, NmAt K (upd H6 fp (.dT (nkv ns))) r.a r.lp (mm r.a) 0 := fun r m => (hnm6 r m).elim fun dn h => ⟨dn, by
      rw [upd_ne (ne_of h d6 (fun z => nomatch z))]
      exact h⟩
    have d7 : (upd H6 fp (.dT (nkv ns))) fp = some (.dT (nkv ns)) := upd_same
    generalize upd H6 fp (.dT (nkv ns)) = H7 at u57 nm7 d7 ⊢
    clear u6 d6 hnm6 hno6 dL lk symL prL' hHL
    -- the names with what they mean
    generalize hnms : (ns.map fun r => (r, mm r.a) : List (NR × PM)) = nms
    have hn1 : nms.map (·.1) = ns := by
      rw [← hnms, List.map_map]
      exact List.map_id _
    have hMO : Sn17.meanings (ds.map OD.obj) = .ok (nms.map mnS) := by
      rw [hME, hmr6, ← hnms, List.map_map]
      rfl
    have hmem7 : ∀ x ∈ nms, x.1 ∈ ns ∧ x.2 = mm x.1.a := fun x m => by
      rw [← hnms] at m
      obtain ⟨r, mr, rfl⟩ := List.mem_map.mp m
      exact ⟨mr, rfl⟩
    have nm7' : ∀ x ∈ nms, NmAt K H7 x.1.a x.1.lp x.2 0 := fun x m => by
      obtain ⟨h1, h2⟩ := hmem7 x m
      rw [h2]
      exact nm7 _ h1
    have nd7 : ((nms.map (·.1)).map (·.n)).Nodup := by
      rw [hn1]
      exact N.nd
    have nda7 : (nms.map (·.1.a)).Nodup := by
      have z := N.nda
      rw [← hn1, List.map_map] at z
      exact z
    have hsym7 : ∀ x ∈ nms, ∀ q, x.2 = .sym q → PrAt K H7 q ∧ PIn ds q ∧ q.s.sec ≠ 0 ∧ q.s.sec ≠ 65522 := fun x m q hq => by
      obtain ⟨h1, h2⟩ := hmem7 x m
      have h3 := hst6 x.1 h1
      rw [← h2, hq] at h3
      obtain ⟨h4, h5, h6⟩ := Mx.settleP_in h3
      exact ⟨u57.k.pr (N.at_ _ h1 q h4).1, (N.at_ _ h1 q h4).2, h5, h6⟩
    have hcom7 : ∀ x ∈ nms, comB x.2 = true → 1 ≤ alN x.2 ∧ alN x.2 ≤ 4096 := fun x m hc => by
      obtain ⟨h1, h2⟩ := hmem7 x m
      have h3 := hst6 x.1 h1
      rw [← h2] at h3
      cases hx : x.2 with
      | sym q =>
        rw [hx] at hc
        cases hc
      | nothing =>
        rw [hx] at hc
        cases hc
      | common s al =>
        rw [hx] at h3
        exact settleP_com h3 fun q mq hs => ((hsymF _ h1 q mq).2 hs).2.1
    have d7' : H7 fp = some (.dT (nkv (nms.map (·.1)))) := by
      rw [hn1]
      exact d7
    have N7 : NamesAt K H7 fp ds nms (fun _ => 0) := ⟨d7', nd7, nm7', hsym7⟩
    have hSQ : ∀ H, SqT K H (A_START K) ((kOf [95, 115, 116, 97, 114, 116]).map kV) := fun H => by
      rw [kOf_kV]
      exact T.t_START H
    have hval : valV (nkv (nms.map (·.1))) (kOf [95, 115, 116, 97, 114, 116]) = (nms.find? fun x => decide (x.1.n = Sn17.START)).map fun x => V.ref x.1.a := by
      rw [nkv_val, start_is, find_map (fun x : NR × PM => x.1) (fun r : NR => decide (r.n = [95, 115, 116, 97, 114, 116])) (fun x => decide (x.1.n = [95, 115, 116, 97, 114, 116])) (fun _ => rfl), Option.map_map]
      rfl
    -- the start
    cases hx : nms.find? (fun x => decide (x.1.n = Sn17.START)) with
    | none =>
      rw [hx] at hval
      refine q_check (b := false && true) (ev_andV (a := false) (b := true) (ev_is (ev_dinK ev_c (ev_var rfl) d7' hSQ) (by rw [hval]; rfl)) (fun z => nomatch z)) (ev_neg (-6)) (fun z => nomatch z) (fun _ => q2 _ (hP1 .missing (link_e2 hos hMO fun x hx' => ?_)))
      rw [hx] at hx'
      cases hx'
    | some x =>
    rw [hx] at hval
    have mx := List.mem_of_find?_eq_some hx
    have hxn : x.1.n = Sn17.START := by simpa using List.find?_some hx
    have get7 : ∀ {σ : L2.St} {H8 : Hp} {td : TE}, H8 fp = some (.dT (nkv (nms.map (·.1)))) → Ev td σ H8 (.ref fp) → Ev (tDGetK K td (tC (.ref (A_START K)))) σ H8 (.ref x.1.a) := fun h1 h2 => ev_dgetK h2 ev_c h1 hSQ hval
    refine q_check (b := true && !isNo x.2) (ev_andV (a := true) (b := !isNo x.2) (ev_is (ev_dinK ev_c (ev_var rfl) d7' hSQ) (by rw [hval]; rfl)) (fun _ => ev_notV (ev_isno (nm7' x mx) (get7 d7' (ev_var rfl))))) (ev_neg (-6)) (fun c2 H8 e8 => ?_) (fun c2 => q2 _ (hP1 .missing (link_e2 hos hMO fun x' hx' => ?_)))
    rotate_left
    · rw [hx] at hx'
      cases hx'
      simpa using c2
    have hno : isNo x.2 = false := by simpa using c2
    have hLK := link_yes (base := b) hos hMO hx hno
    -- all is placed
    have u58 : UpN H5 H8 := u57.trans (UpN.ex e8)
    have W8 : Wd K H8 ds pl0 := u58.wd W5
    have p8 : H8 p = some (.lst (dsL ds)) := u58 _ _ p5 (show 0 ≠ 6 by decide)
    have hzl : (allZs ds).length ≤ 65536 := by
      have z : ∀ l : List OD, (∀ d ∈ l, d.zs.length ≤ 1024) → (allZs l).length ≤ 1024 * l.length := by
        intro l
        induction l with
        | nil => intro _; exact Nat.zero_le _
        | cons d r ih =>
          intro hl
          have h1 := ih fun d' m => hl d' (List.mem_cons_of_mem _ m)
          have h2 := hl d (List.mem_cons_self ..)
          have e : allZs (d :: r) = d.zs ++ allZs r := rfl
          rw [e, List.length_append, List.length_cons, Nat.mul_succ]
          omega
      have := z ds hzs
      omega
    have hnl7 : nms.length ≤ 16000000 := by
      rw [← hnms, List.length_map]
      omega
    refine q_asgX (ea_cons (ev_var rfl) (ea_cons (ev_var rfl) (ea_cons (ev_var rfl) ea_nil))) fun H9 e9 => ?_
    have e79 := e8.trans e9
    refine ⟨b, p, fp, ds, nms, rfl, SqL.of (e9 _ _ p8), W8.mono e9, al_of hg, hzl, e79 _ _ d7', nd7, nda7, hnl7, fun x m => (nm7' x m).mono e79, hcom7, fun la sp bp pl ad Ha PL u9a => ?_⟩
    have u7a : UpK H7 Ha := (UpK.ex e79).trans u9a
    have NA : NamesAt K Ha fp ds nms ad := ⟨u7a _ _ d7' (show 0 ≠ 10 by decide) (show 0 ≠ 6 by decide), nd7, PL.nm, fun x m q hq => ⟨u7a.pr (hsym7 x m q hq).1, (hsym7 x m q hq).2⟩⟩
    have hPA : PlA b ds nms pl ad := ⟨PL.pos, PL.com, PL.noc, nd7, fun x m q hq => (hsym7 x m q hq).2.1, hb⟩
    have hyk : ∀ d ∈ ds, SymsOk d := fun d m z mz => by
      have z1 := (hgd d m).sym z.2 (List.mem_map.mpr ⟨z, mz, rfl⟩)
      have e : d.obj.secs.length = d.zs.length := by
        show (d.zs.map (·.2)).length = _
        rw [List.length_map]
      rw [e] at z1
      exact ⟨z1.2.1, fun h => (z1.2.2 h).2.2⟩
    have pa : Ha p = some (.lst (dsL ds)) := u9a.lst (e9 _ _ p8)
    have PLs := PL.s
    have PLg := PL.g
    generalize hSz : szs ((allK ds).map kS) (nms.map mnS) = Sz at *
    have hS4 : iv Sz = iv [szF Sz 0, szF Sz 1, szF Sz 2, szF Sz 3] := by
      rw [← hSz]
      rfl
    -- the address of the start
    have hnm : (wOf b (ds.map OD.obj) (nms.map mnS)).name Sn17.START = whrN ds nms pl ad Sn17.START := name_eq hPA Sn17.START
    refine q_asg (v := ov (whrN ds nms pl ad Sn17.START)) (by
      rw [← hxn]
      exact ev_whr NA PL.wd hyk mx (get7 NA.dict (ev_var rfl))) fun Hb eb => ?_
    generalize whrN ds nms pl ad Sn17.START = st at hnm
    refine q_check (b := !decide (ov st = .non)) (ev_op (ev_var rfl) ev_c fun H3 e3 Q3 k3 => ⟨rfl, k3 _ (Ex.refl _)⟩) (ev_neg (-4)) (fun c3 Hc ec => ?_) (fun c3 => q2 _ (hP1 .kind ?_))
    rotate_left
    · rw [ov_non] at c3
      cases st with
      | some n => cases c3
      | none => rw [hLK, hnm]
    rw [ov_non] at c3
    cases st with
    | none => cases c3
    | some st =>
    rw [hnm] at hLK
    dsimp only at hLK
    have eac := eb.trans ec
    -- the images
    have hszl : ∀ c, c < 3 → szF Sz c ≤ 4194304 := fun c hc => by
      rw [← hSz]
      exact sz_le hg hmem (nms.map mnS) hc
    have hpls : ∀ d ∈ ds, ∀ z ∈ d.zs, z.2.loads = true → z.2.type ≠ 8 → Sn17.classOf z.2 < 3 ∧ (pl z.1).1 + z.2.size ≤ szF Sz (Sn17.classOf z.2) ∧ z.2.offset + z.2.size ≤ d.bytes.length := fun d m z mz hl h8 => by
      obtain ⟨h1, h2⟩ := place_le hPA hg m mz hl h8
      rw [hSz] at h2
      exact ⟨h1, h2, (hgd d m).inn z.2 (List.mem_map.mpr ⟨z, mz, rfl⟩) h8⟩
    refine q_asgX (ea_cons (ev_var rfl) (ea_cons (ev_var rfl) ea_nil)) fun Hd ed => ?_
    have ead := eac.trans ed
    have hsp : Hd sp = some (.lst (iv [szF Sz 0, szF Sz 1, szF Sz 2, szF Sz 3])) := by
      rw [← hS4]
      exact ead _ _ PLs
    refine ⟨la, sp, bp, p, b, ds, pl, szF Sz, rfl, PL.ly.mono ead, hsp, SqL.of (ead _ _ pa), PL.wd.mono ead, hszl, hpls, fun ip i He nip ni ede I => ?_⟩
    have hw0 : ∀ x ∈ secWs pl ds, WIn (szF Sz) x := fun x m => by
      obtain ⟨d, m1, m2⟩ := List.mem_flatMap.mp m
      exact secW_in (hpls d m1) (fun z m => m) x m2
    have hl0 := fold_len hw0 (m := fun c => List.replicate (szF Sz c) 0) (fun c _ => List.length_replicate)
    -- the relocations
    have hro : ∀ d ∈ ds, RelsOk nms pl (szF Sz) d := fun d m z mz => by
      obtain ⟨s, y, h1, h2, h3, h4, h5⟩ := (hgd d m).rel z.2 (List.mem_map.mpr ⟨z, mz, rfl⟩)
      have h1' : (d.zs.map (·.2))[z.2.sec]? = some s := h1
      have h5' : (d.zy.map (·.2))[z.2.sym]? = some y := h5
      rw [List.getElem?_map] at h1' h5'
      obtain ⟨sz', e1, e2⟩ := Option.map_eq_some_iff.mp h1'
      obtain ⟨y', e3, e4⟩ := Option.map_eq_some_iff.mp h5'
      have hms := List.mem_of_getElem? e1
      rw [← e2] at h2 h3 h4
      obtain ⟨k1, k2, _⟩ := hpls d m sz' hms h2 h3
      refine ⟨sz', y', e1, e3, fun hb => ?_, k1, by omega⟩
      have mg : y'.2.name ∈ ns.map (·.n) := by
        rw [hk]
        refine (Mx.once_mem _ _).mpr ?_
        obtain ⟨o, ho⟩ := List.getElem?_of_mem m
        have hzi := zip_mem (n := 0) ho
        rw [Nat.zero_add] at hzi
        refine List.mem_map.mpr ⟨(y'.2.name, o, y'.2), ?_, rfl⟩
        unfold Sn17.globals
        rw [zip_map]
        refine List.mem_flatMap.mpr ⟨(d.obj, o), List.mem_map.mpr ⟨(d, o), hzi, rfl⟩, List.mem_map.mpr ⟨y'.2, List.mem_filter.mpr ⟨?_, ?_⟩, rfl⟩⟩
        · exact List.mem_map.mpr ⟨y', List.mem_of_getElem? e3, rfl⟩
        · simpa using hb
      rw [← hn1, List.map_map] at mg
      obtain ⟨x', mx', ex'⟩ := List.mem_map.mp mg
      exact ⟨x', mx', ex'⟩
    have hfe := fills_eq hPA fun d m z mz => by
      obtain ⟨s, y, h1, h2, h3, h4, h5⟩ := (hgd d m).rel z.2 (List.mem_map.mpr ⟨z, mz, rfl⟩)
      have h1' : (d.zs.map (·.2))[z.2.sec]? = some s := h1
      have h5' : (d.zy.map (·.2))[z.2.sym]? = some y := h5
      rw [List.getElem?_map] at h1' h5'
      obtain ⟨sz', e1, e2⟩ := Option.map_eq_some_iff.mp h1'
      obtain ⟨y', e3, e4⟩ := Option.map_eq_some_iff.mp h5'
      exact ⟨sz', y', e1, by rw [e2]; exact h2, e3⟩
    obtain ⟨rw1, rw2⟩ := relWs_P (ds := ds) (nms := nms) (pl := pl) (ad := ad) (rp ds)
    refine q_cal (ea_cons (ev_var rfl) (ea_cons (ev_var rfl) (ea_cons (ev_var rfl) ea_nil))) fun Hf ef => ?_
    refine ⟨p, fp, ip, i, Hd, ds, nms, pl, ad, _, szF Sz, rfl, ede.trans ef, ni, SqL.of (ead _ _ pa), PL.wd.mono ead, hyk, NA.mono ead, I.mono ef, hl0, hro, fun ws hws Hg edg Ig => ?_, fun e he => q2 _ (hP1 e ?_)⟩
    rotate_left
    · rw [hLK, hfe]
      cases hq : (rp ds).mapM (relP ds nms pl ad) with
      | error e' =>
        rw [rw1 e' hq] at he
        cases he
        rfl
      | ok ts =>
        obtain ⟨ws, hw, _⟩ := rw2 ts hq
        rw [hw] at he
        cases he
    obtain ⟨ts, hts⟩ : ∃ ts, (rp ds).mapM (relP ds nms pl ad) = .ok ts := by
      cases hq : (rp ds).mapM (relP ds nms pl ad) with
      | error e' =>
        rw [rw1 e' hq] at hws
        cases hws
      | ok ts => exact ⟨ts, rfl⟩
    obtain ⟨ws', hw', hwm⟩ := rw2 ts hts
    rw [hws] at hw'
    cases hw'
    rw [hwm] at Ig
    have hti : ∀ x ∈ ts, WIn (szF Sz) x := fun x m => by
      obtain ⟨y, my, hy⟩ := Mx.mapM_mem hts x m
      obtain ⟨d, md, m2⟩ := List.mem_flatMap.mp my
      obtain ⟨z, mz, rfl⟩ := List.mem_map.mp m2
      exact relP_in (hro d md) mz hy
    have hl1 := fold_len hti hl0
    have hie := image_eq hPA (ts := ts) (by rw [hSz]; exact hw0) (by rw [hSz]; exact hti)
    rw [hSz] at hie hfe
    have hSz' : szs (Sn17.allSecs (ds.map OD.obj)) (nms.map mnS) = Sz := by
      rw [← allK_secs]
      exact hSz
    have hfile := file_eq hb (ds.map OD.obj) (nms.map mnS) st (ts.foldl wr ((secWs pl ds).foldl wr fun c => List.replicate (szF Sz c) 0))
    rw [hSz'] at hfile
    rw [hfe, hts] at hLK
    have hLK' : Sn17.link b (Sn17.cut sizes by_) = .ok (Mx.fileOf b st (begs b Sz) (szF Sz) (ts.foldl wr ((secWs pl ds).foldl wr fun c => List.replicate (szF Sz c) 0))) := by
      rw [hLK]
      show Except.ok ((wOf b (ds.map OD.obj) (nms.map mnS)).file st ((wOf b (ds.map OD.obj) (nms.map mnS)).image (ts.map (cv (begs b Sz))))) = _
      rw [hie, hfile]
    have hflen := file_len (b := b) (bg := begs b Sz) (entry := st) hl1
    have hPF := hP2 _ hLK'
    generalize hm : ts.foldl wr ((secWs pl ds).foldl wr fun c => List.replicate (szF Sz c) 0) = m at *
    have eag := ead.trans edg
    -- the size
    have hspg : Hg sp = some (.lst (iv [szF Sz 0, szF Sz 1, szF Sz 2, szF Sz 3])) := edg _ _ hsp
    refine q_check (b := decide (((4096 + ([szF Sz 0, szF Sz 1, szF Sz 2].map fun n => Sn17.up n 4096).sum : Nat) : Int) ≤ most)) (ev_I0 (i := ((4096 + ([szF Sz 0, szF Sz 1, szF Sz 2].map fun n => Sn17.up n 4096).sum : Nat) : Int)) (j := most) (ev_met (ev_var rfl) (hm_Layout_file_size (PL.ly.mono eag)) ea_nil fun H3 e3 Q3 q3 E3 => ⟨la, sp, bp, b, szF Sz 0, szF Sz 1, szF Sz 2, szF Sz 3, rfl, (PL.ly.mono eag).mono e3, e3 _ _ hspg, q3⟩) (ev_var rfl) rfl) (ev_neg (-1)) (fun c4 Hh eh => ?_) (fun c4 => q2 _ ?_)
    rotate_left
    · have z := of_decide_eq_false c4
      rw [hPF, hflen, if_pos (by omega)]
    have c4' := of_decide_eq_true c4
    have hfin : linkP b sizes by_ most = .ok (Mx.fileOf b st (begs b Sz) (szF Sz) m) := by
      rw [hPF, hflen, if_neg (by omega)]
    have eah := eag.trans eh
    have hR4 : (List.range 4).map (szF Sz) = Sz := by
      rw [← hSz]
      rfl
    refine s_retL (el_call (ea_cons (ev_var rfl) (ea_cons (ev_var rfl) (ea_cons (ev_var rfl) ea_nil))) fun H3 e3 Q3 q3 E3 => ⟨la, sp, bp, ip, b, st, i, m, begs b Sz, szF Sz, rfl, (PL.ly.mono eah).mono e3, ?_, (eah.trans e3) _ _ PLg, fun c hc => ?_, (Ig.mono eh).mono e3, fun c hc => ?_, q3⟩) fun rp Hi nrp ei hi => q1 _ hfin rp Hi hi
    · rw [hR4]
      exact (eah.trans e3) _ _ PLs
    · rw [← hSz]
      exact begs_ge hb hc
    · rw [hl1 c hc]
      exact hszl c hc
end
end Lk

set_option Elab.async false
set_option linter.all false
set_option maxRecDepth 100000
set_option maxHeartbeats 4000000
/-! # link: the outermost def -/
namespace Lk
open PySem PySem.Spec PyProof.Rows L2 Evl He
theorem takesNo {X : Cx} : Takes X (fun _ _ _ _ => False) := fun _ _ x => by
  obtain ⟨_, _, _, _, _, _, _, _, _, _, _, _, _, _, _, _, z⟩ := x
  exact z.elim
/-- what is answered -/
def linkA (b : Nat) (mx : Int) (sizes by_ : List Nat) : List Int :=
  if sizes.length < 1 ∨ 64 < sizes.length ∨ b % 4096 ≠ 0 ∨ 2 ^ 46 ≤ b ∨ mx < 0 ∨ 16777216 < mx then [-2] else match linkP b sizes by_ mx with
  | .error e => [e]
  | .ok f => (f.length : Int) :: f.map fun (n : Nat) => (n : Int)
def spLink (K : PySem.W.Frag) : Sp := fun vs H Q _ => ∃ (b ps po : Nat) (mx : Int) (sizes by_ : List Nat), vs = [nv b, .int mx, .ref ps, .ref po] ∧ SqL K H ps (iv sizes) ∧ sizes.length ≤ 64 ∧ Rw K H po by_ ∧ (linkA b mx sizes by_).length ≤ 1000000 ∧
  ∀ (p : Addr) (H' : Hp), H' p = some (.lst ((linkA b mx sizes by_).map V.int)) → Q (.ref p) H'
theorem el_catR {K : PySem.W.Frag} {H : Hp} {σ : L2.St} {ta tb : TE} {p : Addr} {xs ys : List V} (h1 : EvL ta σ H xs) (h2 : Ev tb σ H (.ref p)) (hy : SqL K H p ys) (hz : xs.length + ys.length ≤ 16777216) : EvL (tOp (rCatK K) ta tb) σ H (xs ++ ys) := fun H1 e Q q =>
  h1 H1 e _ fun a H2 ha e2 hx => h2 H2 (e.trans e2) _ fun H3 e3 => ⟨a, p, _, _, rfl, rfl, SqL.of (e3 _ _ hx), ex_l ((e.trans e2).trans e3) hy, by rw [sizeLine_eq]; exact hz, fun s hs => q s _ (fresh_back (e2.trans e3) hs) ((e2.trans e3).trans (Ex.new hs)) upd_same⟩
section
variable {P : Program} {w : World} {K : PySem.W.Frag} {mg : Str → Option Value} {base : Heap}
theorem ok_link {f : Addr} {fd : FuncData} (T : Tx K mg) (F : FunD K "link" "link" (defArgs s_link) (defBody s_link) (defScope s_link) [] [] f fd) : FnOk P w K mg base CX0 11 f fd ["address", "max_size", "sizes", "objects"] (spLink K) := by
  obtain ⟨fL, fdL, psL, GL, hmL, hkL, hbL⟩ := (ok_linked (P := P) (w := w) (base := base) T).ex
  refine F.ok sc_link (fun vs H Q E h => ?_) (fun cdv A outer s H vs Q E hr h => ⟨_, (pss_cons (ps_if (PW.pt (pw_or (pt_not (pt_chain op_le op_le pe_int (pe_callB (call_lenK (K := K)) (by rfl) T.b_len PySem.boot_len (pa_cons (pv 2) pa_nil)) (pe_gi T.v_MOST_OBJECTS))) (pw_or (pt_cmpR op_ne (pe_op op_mod (pv 0) pe_int) pe_int (nomark _)) (pw_or1 (pt_cmpR op_ge (pv 0) (pe_gi T.v_MOST_ADDRESS) (nomark _)))))) (pss_one (ps_ret (pe_lst (pa_cons (pe_un un_neg pe_int) pa_nil)))) pss_nil)
      (pss_cons (ps_if (pt_not (pt_chain op_le op_le pe_int (pv 1) (pe_gi T.v_MOST_SIZE))) (pss_one (ps_ret (pe_lst (pa_cons (pe_un un_neg pe_int) pa_nil)))) pss_nil)
      (pss_cons (ps_try_as (i := 5) (tb := fun W => tAsg (tCallS (spLinked K) (WE W) (tCons (tVar 0) (tCons (tCB (rListS K) (tCons (tVar 2) tNil)) (tCons (tCB (rListS K) (tCons (tVar 3) tNil)) (tCons (tVar 1) tNil))))) (gName 4)) (ts := fun a cls d => tRet (tLst (tCons (tByLow (BK K) a cls d (tVar 5)) tNil))) (Wout := fun _ _ _ _ => False) rfl rfl sc_link.nd rfl rfl ⟨rfl, by decide, Or.inl T.low.gC⟩ takesNo
          (fun W pn xe tk _ => pss_one (ps_set (i := 4) sc_link.nd rfl (Or.inl rfl) (pe_callS GL (hr.mono (by decide)) rfl hmL hkL hbL (fun σ => passAt tk σ) (pa_cons (pv 0) (pa_cons (pe_callTy (call_listK (K := K)) (by rfl) T.b_list (by decide +kernel) (pa_cons (pv 2) pa_nil)) (pa_cons (pe_callTy (call_listK (K := K)) (by rfl) T.b_list (by decide +kernel) (pa_cons (pv 3) pa_nil)) (pa_cons (pv 1) pa_nil)))))))
          (fun a oe cls d pn hz hf => pss_one (ps_ret (pe_lst (pa_cons (pe_byLow T.low hz hf (pv 5)) pa_nil)))))
      (pss_one (ps_ret (pe_op (op_catKK (K := K)) (pe_lst (pa_cons (pe_callB (call_lenK (K := K)) (by rfl) T.b_len PySem.boot_len (pa_cons (pv 4) pa_nil)) pa_nil)) (pv 4))))))), ?_⟩)
  · obtain ⟨b, ps, po, mx, sizes, by_, rfl, _⟩ := h
    rfl
  · obtain ⟨b, ps, po, mx, sizes, by_, rfl, hS, hsl, hR, hlen, q⟩ := h
    have c1ev : Ev (tC (.int 70368744177664)) [some (nv b), some (.int mx), some (.ref ps), some (.ref po), none, none] H (nv (2 ^ 46)) := ev_kN (2 ^ 46) (by rfl)
    refine q_when (b := !(decide ((1 : Int) ≤ (sizes.length : Int)) && decide ((sizes.length : Int) ≤ 64)) || ((!decide (b % 4096 = 0)) || decide (2 ^ 46 ≤ b))) (et_or (et_not (et_test (ev_chain (x := .int 1) (y := nv sizes.length) (w := .int 64) (p := decide ((1 : Int) ≤ (sizes.length : Int))) (q := decide ((sizes.length : Int) ≤ 64)) ev_c (ev_lenN' (ev_var rfl) hS) ev_c rv_I0 rv_I0))) fun _ => et_or (et_neN (ev_modN (ev_var rfl) (ev_kN 4096) (by decide)) (ev_kN 0)) fun _ => et_test (ev_geN (ev_var rfl) c1ev)) (fun c1 H1 e1 => ?_) (fun c1 H1 e1 => ?_)
    · refine s_retL (el_lst (ea_cons (ev_neg (-2)) ea_nil) (show 1 ≤ 100000 by decide)) fun p H2 np e2 h2 => q p H2 ?_
      have z : linkA b mx sizes by_ = [-2] := by
        unfold linkA
        rw [if_pos]
        rw [Bool.or_eq_true, Bool.or_eq_true] at c1
        rcases c1 with k | k | k
        · have k' : ¬ (decide ((1 : Int) ≤ (sizes.length : Int)) && decide ((sizes.length : Int) ≤ 64)) = true := fun z => by
            rw [z] at k
            cases k
          by_cases k1 : sizes.length < 1
          · exact .inl k1
          · refine absurd ?_ k'
            rw [decide_eq_true (by omega), decide_eq_true (by omega)]
            rfl
        · exact .inr (.inr (.inl (by simpa using k)))
        · exact .inr (.inr (.inr (.inl (of_decide_eq_true k))))
      rw [z]
      exact h2
    rw [Bool.or_eq_false_iff, Bool.or_eq_false_iff] at c1
    obtain ⟨k1, k2, k3⟩ := c1
    have k1' : (decide ((1 : Int) ≤ (sizes.length : Int)) && decide ((sizes.length : Int) ≤ 64)) = true := by simpa using k1
    rw [Bool.and_eq_true] at k1'
    have l1 : 1 ≤ sizes.length := by
      have := of_decide_eq_true k1'.1
      omega
    have hb : b % 4096 = 0 := by simpa using k2
    have hb2 : ¬ 2 ^ 46 ≤ b := of_decide_eq_false k3
    refine q_when (b := !(decide ((0 : Int) ≤ mx) && decide (mx ≤ 16777216))) (et_not (et_test (ev_chain (x := .int 0) (y := .int mx) (w := .int 16777216) (p := decide ((0 : Int) ≤ mx)) (q := decide (mx ≤ 16777216)) ev_c (ev_var rfl) ev_c rv_I0 rv_I0))) (fun c2 H2 e2 => ?_) (fun c2 H2 e2 => ?_)
    · refine s_retL (el_lst (ea_cons (ev_neg (-2)) ea_nil) (show 1 ≤ 100000 by decide)) fun p H3 np e3 h3 => q p H3 ?_
      have z : linkA b mx sizes by_ = [-2] := by
        unfold linkA
        rw [if_pos]
        have k' : ¬ (decide ((0 : Int) ≤ mx) && decide (mx ≤ 16777216)) = true := fun z => by
          rw [z] at c2
          cases c2
        by_cases k1 : mx < 0
        · exact .inr (.inr (.inr (.inr (.inl k1))))
        · by_cases k2 : 16777216 < mx
          · exact .inr (.inr (.inr (.inr (.inr k2))))
          · refine absurd ?_ k'
            rw [decide_eq_true (by omega), decide_eq_true (by omega)]
            rfl
      rw [z]
      exact h3
    have c2' : (decide ((0 : Int) ≤ mx) && decide (mx ≤ 16777216)) = true := by simpa using c2
    rw [Bool.and_eq_true] at c2'
    have m0 := of_decide_eq_true c2'.1
    have m1 := of_decide_eq_true c2'.2
    have hA : linkA b mx sizes by_ = match linkP b sizes by_ mx with
      | .error e => [e]
      | .ok f => (f.length : Int) :: f.map fun (n : Nat) => (n : Int) := by
      unfold linkA
      rw [if_neg]
      rintro (k | k | k | k | k | k)
      · omega
      · omega
      · exact k hb
      · exact hb2 k
      · omega
      · omega
    have e02 := e1.trans e2
    -- the try
    refine ⟨_, rfl, ?_⟩
    refine (el_list (K := K) (p := ps) (xs := iv sizes) (ev_var rfl) (ex_l e02 hS)) H2 (Ex.refl H2) _ fun a H3 na e3 ha => ?_
    refine (el_list (K := K) (p := po) (xs := iv by_) (ev_var rfl) (ex_l (e02.trans e3) hR.sq)) H3 (Ex.refl H3) _ fun l H4 nl e4 hl => ?_
    refine ⟨_, rfl, ?_⟩
    refine ⟨b, a, l, mx, sizes, by_, rfl, SqL.of (e4 _ _ ha), hsl, ⟨SqL.of hl, hR.len, hR.by_⟩, hb, fun fl hf p H5 h5 => ?_, fun er he => ?_⟩
    · rw [hf] at hA
      have hA' : linkA b mx sizes by_ = (fl.length : Int) :: fl.map fun (n : Nat) => (n : Int) := hA
      have hfl : fl.length ≤ 1000000 := by
        rw [hA', List.length_cons, List.length_map] at hlen
        omega
      refine s_retL (el_catR (el_lst (ea_cons (ev_lenN' (l := fl) (ev_var rfl) (SqL.of h5)) ea_nil) (show 1 ≤ 100000 by decide)) (ev_var rfl) (SqL.of h5) (by
        rw [iv_len]
        show 1 + fl.length ≤ 16777216
        omega)) fun r H6 nr e6 h6 => q r H6 ?_
      rw [hA', h6]
      congr 1
      show HO.lst (nv fl.length :: iv fl) = HO.lst (V.int (fl.length : Int) :: (fl.map fun (n : Nat) => (n : Int)).map V.int)
      unfold iv
      rw [List.map_map]
      rfl
    · rw [he] at hA
      have hA' : linkA b mx sizes by_ = [er] := hA
      intro d H5 h5
      refine ⟨true, T.low.te, fun _ a0 _ => ?_, fun z => Bool.noConfusion z⟩
      refine ⟨_, rfl, rfl, rfl, d, _, rfl, h5, ?_⟩
      refine ⟨by show 1 ≤ sizeLine; decide, fun p hp => q p _ ?_⟩
      rw [hA']
      exact upd_same
end
end Lk

set_option Elab.async false
set_option linter.all false
set_option maxRecDepth 100000
set_option maxHeartbeats 4000000
/-! # What the module's import leaves: facts, a Hook, Tx out of them -/
namespace PySem
namespace LowX
open PySem.W PySem.Calls PyProof.Rows PySem.HandSPX
/-- the class of the error as the part has it -/
def exBC (K : Frag) (C : Addr) : Bool := match K.lookup C with
  | some ⟨.type "type", _, .cls cd, sl⟩ => (match cd.mro, sl.toList with
    | .ref C' :: bm, [_, _, _, _, some (.builtin n), _] => C' == C && n == "ValueError.__new__" && !cd.hasDel && refsVE bm && cd.hasDict
    | _, _ => false)
  | _ => false
theorem exBC_ok {K : Frag} {C : Addr} (q : exBC K C = true) : ∃ nm qn N bs bm sn sub ab col dd k0 k1 k2 k3 k5, K.lookup C = some (excClassObj nm qn C N bs bm true sn sub ab col dd k0 k1 k2 k3 k5 "ValueError.__new__") ∧ refsVE bm = true := by
  unfold exBC at q
  split at q
  · rename_i dd cd sl ho
    split at q
    · rename_i C' bm k0 k1 k2 k3 n k5 hm hs
      simp only [Bool.and_eq_true, beq_iff_eq, Bool.not_eq_true'] at q
      obtain ⟨⟨⟨⟨rfl, rfl⟩, hdel⟩, ht⟩, hdc⟩ := q
      obtain ⟨nm, bs, mro, ns, qn, hd, sn, sub, ab, col, del⟩ := cd
      dsimp only at hm hdel hdc
      subst hm hdel hdc
      have hsl : sl = #[k0, k1, k2, k3, some (.builtin "ValueError.__new__"), k5] := by
        obtain ⟨l⟩ := sl
        simp only at hs
        rw [hs]
      subst hsl
      exact ⟨nm, qn, ns, bs, bm, sn, sub, ab, col, dd, k0, k1, k2, k3, k5, ho, ht⟩
    · cases q
  · cases q
end LowX
end PySem
namespace Lk
open PySem PySem.Spec PyProof.Rows L2 Evl He
def exB (K : PySem.W.Frag) : Bool := PySem.LowX.exBC K (BK K)
/-- the error's __init__ has no keyword defaults -/
def kwN (K : PySem.W.Frag) : Bool := match K.lookup (ma K (BK K) "__init__") with
  | some ⟨_, _, .func fd, _⟩ => (match fd.kwdefaults with
    | .none => true
    | _ => false)
  | _ => false
theorem kwN_ok {K : PySem.W.Frag} (h : kwN K = true) {oc : Value} {od : Option Addr} {fd : FuncData} {osl : Array (Option Value)} (e : K.lookup (ma K (BK K) "__init__") = some ⟨oc, od, .func fd, osl⟩) : fd.kwdefaults = .none := by
  unfold kwN at h
  rw [e] at h
  obtain ⟨n1, n2, n3, n4, n5, n6, n7, n8, n9, n10, n11, n12, n13, n14, n15⟩ := fd
  cases n9 with
  | none => rfl
  | _ => cases h
def FA_0 : List Fa := [.int "DATA" 1,
  .int "SYMBOLS" 2,
  .int "NAMES" 3,
  .int "RELOCATIONS" 4,
  .int "ZEROS" 8,
  .int "ABSOLUTE" 65521,
  .int "COMMON" 65522,
  .int "LOCAL" 0,
  .int "GLOBAL" 1,
  .int "MOST_ALIGNMENT" 4096,
  .int "CUT" 18446744073709551616,
  .int "PAGE" 4096,
  .int "MOST_OBJECTS" 64,
  .int "MOST_ADDRESS" 70368744177664,
  .int "MOST_SIZE" 16777216,
  .int "MOST_MEMORY" 4194304,
  .glo "MAGIC",
  .glo "KINDS",
  .glo "RIGHTS",
  .glo "START",
  .free "range",
  .free "len",
  .free "tuple",
  .free "max",
  .free "any",
  .free "sum",
  .free "list",
  .cls "Section",
  .mkr "Section",
  .glo "Section"]
def FA_1 : List Fa := [.noat "Section" "sort_of",
  .noat "Section" "flags",
  .noat "Section" "begin",
  .noat "Section" "size",
  .noat "Section" "linked",
  .noat "Section" "info",
  .noat "Section" "alignment",
  .noat "Section" "entry",
  .noat "Section" "place",
  .noat "Section" "address",
  .meth "Section" "has",
  .meth "Section" "is_loaded",
  .meth "Section" "class_of",
  .cls "Symbol",
  .mkr "Symbol",
  .glo "Symbol",
  .noat "Symbol" "name",
  .noat "Symbol" "binding",
  .noat "Symbol" "section",
  .noat "Symbol" "value",
  .noat "Symbol" "size",
  .meth "Symbol" "is_definition",
  .cls "Relocation",
  .mkr "Relocation",
  .glo "Relocation",
  .noat "Relocation" "section",
  .noat "Relocation" "offset",
  .noat "Relocation" "kind",
  .noat "Relocation" "symbol",
  .noat "Relocation" "addend"]
def FA_2 : List Fa := [.meth "Relocation" "width",
  .cls "Told",
  .mkr "Told",
  .glo "Told",
  .noat "Told" "row",
  .noat "Told" "sections",
  .noat "Told" "symbols",
  .noat "Told" "relocations",
  .cls "Name",
  .mkr "Name",
  .glo "Name",
  .noat "Name" "symbols",
  .noat "Name" "definition",
  .noat "Name" "is_common",
  .noat "Name" "size",
  .noat "Name" "alignment",
  .noat "Name" "address",
  .meth "Name" "settle",
  .meth "Name" "is_nothing",
  .meth "Name" "whereabouts",
  .cls "Layout",
  .mkr "Layout",
  .glo "Layout",
  .noat "Layout" "address",
  .noat "Layout" "sizes",
  .noat "Layout" "begins",
  .meth "Layout" "put",
  .meth "Layout" "settle",
  .meth "Layout" "file_size",
  .glo "check"]
def FA_3 : List Fa := [.glo "number_at",
  .glo "is_alignment",
  .glo "sections_of",
  .glo "check_sections",
  .glo "bytes_of",
  .glo "name_at",
  .glo "check_symbol",
  .glo "symbols_of",
  .glo "relocations_of",
  .glo "address_of",
  .glo "names_of",
  .glo "raised",
  .glo "place_all",
  .glo "images_of",
  .glo "value_of",
  .glo "target_of",
  .glo "relocate",
  .glo "stored",
  .glo "header_of",
  .glo "program_header",
  .glo "filled",
  .glo "file_of",
  .glo "objects_of",
  .glo "memory_of",
  .glo "linked",
  .glo "link",
  .glo "Broken",
  .noat "Broken" "__getattr__",
  .noat "Broken" "code",
  .meth "Broken" "__init__"]
def FA_4 : List Fa := [.keep "Broken",
  .exm "Broken" "Broken" true]
def FA : List Fa := FA_0 ++ FA_1 ++ FA_2 ++ FA_3 ++ FA_4
def FN_0 : List DefD := [⟨("Broken", some "__init__"), "__init__", "Broken.__init__", defArgs s_Broken_init, defBody s_Broken_init, defScope s_Broken_init, [], []⟩,
  ⟨("check", none), "check", "check", defArgs s_check, defBody s_check, defScope s_check, [], []⟩,
  ⟨("number_at", none), "number_at", "number_at", defArgs s_number_at, defBody s_number_at, defScope s_number_at, [], []⟩,
  ⟨("is_alignment", none), "is_alignment", "is_alignment", defArgs s_is_alignment, defBody s_is_alignment, defScope s_is_alignment, [], []⟩,
  ⟨("Section", some "__init__"), "__init__", "Section.__init__", defArgs s_Section_init, defBody s_Section_init, defScope s_Section_init, [], []⟩,
  ⟨("Section", some "has"), "has", "Section.has", defArgs s_Section_has, defBody s_Section_has, defScope s_Section_has, [], []⟩,
  ⟨("Section", some "is_loaded"), "is_loaded", "Section.is_loaded", defArgs s_Section_is_loaded, defBody s_Section_is_loaded, defScope s_Section_is_loaded, [], []⟩,
  ⟨("Section", some "class_of"), "class_of", "Section.class_of", defArgs s_Section_class_of, defBody s_Section_class_of, defScope s_Section_class_of, [], []⟩,
  ⟨("Symbol", some "__init__"), "__init__", "Symbol.__init__", defArgs s_Symbol_init, defBody s_Symbol_init, defScope s_Symbol_init, [], []⟩,
  ⟨("Symbol", some "is_definition"), "is_definition", "Symbol.is_definition", defArgs s_Symbol_is_definition, defBody s_Symbol_is_definition, defScope s_Symbol_is_definition, [], []⟩,
  ⟨("Relocation", some "__init__"), "__init__", "Relocation.__init__", defArgs s_Relocation_init, defBody s_Relocation_init, defScope s_Relocation_init, [], []⟩,
  ⟨("Relocation", some "width"), "width", "Relocation.width", defArgs s_Relocation_width, defBody s_Relocation_width, defScope s_Relocation_width, [], []⟩]
def FN_1 : List DefD := [⟨("Told", some "__init__"), "__init__", "Told.__init__", defArgs s_Told_init, defBody s_Told_init, defScope s_Told_init, [], []⟩,
  ⟨("sections_of", none), "sections_of", "sections_of", defArgs s_sections_of, defBody s_sections_of, defScope s_sections_of, [], []⟩,
  ⟨("check_sections", none), "check_sections", "check_sections", defArgs s_check_sections, defBody s_check_sections, defScope s_check_sections, [], []⟩,
  ⟨("bytes_of", none), "bytes_of", "bytes_of", defArgs s_bytes_of, defBody s_bytes_of, defScope s_bytes_of, [], []⟩,
  ⟨("name_at", none), "name_at", "name_at", defArgs s_name_at, defBody s_name_at, defScope s_name_at, [], []⟩,
  ⟨("check_symbol", none), "check_symbol", "check_symbol", defArgs s_check_symbol, defBody s_check_symbol, defScope s_check_symbol, [], []⟩,
  ⟨("symbols_of", none), "symbols_of", "symbols_of", defArgs s_symbols_of, defBody s_symbols_of, defScope s_symbols_of, [], []⟩,
  ⟨("relocations_of", none), "relocations_of", "relocations_of", defArgs s_relocations_of, defBody s_relocations_of, defScope s_relocations_of, [], []⟩,
  ⟨("Name", some "__init__"), "__init__", "Name.__init__", defArgs s_Name_init, defBody s_Name_init, defScope s_Name_init, [], []⟩,
  ⟨("Name", some "settle"), "settle", "Name.settle", defArgs s_Name_settle, defBody s_Name_settle, defScope s_Name_settle, [], []⟩,
  ⟨("Name", some "is_nothing"), "is_nothing", "Name.is_nothing", defArgs s_Name_is_nothing, defBody s_Name_is_nothing, defScope s_Name_is_nothing, [], []⟩,
  ⟨("Name", some "whereabouts"), "whereabouts", "Name.whereabouts", defArgs s_Name_whereabouts, defBody s_Name_whereabouts, defScope s_Name_whereabouts, [], []⟩]
def FN_2 : List DefD := [⟨("address_of", none), "address_of", "address_of", defArgs s_address_of, defBody s_address_of, defScope s_address_of, [], []⟩,
  ⟨("names_of", none), "names_of", "names_of", defArgs s_names_of, defBody s_names_of, defScope s_names_of, [], []⟩,
  ⟨("raised", none), "raised", "raised", defArgs s_raised, defBody s_raised, defScope s_raised, [], []⟩,
  ⟨("Layout", some "__init__"), "__init__", "Layout.__init__", defArgs s_Layout_init, defBody s_Layout_init, defScope s_Layout_init, [], []⟩,
  ⟨("Layout", some "put"), "put", "Layout.put", defArgs s_Layout_put, defBody s_Layout_put, defScope s_Layout_put, [], []⟩,
  ⟨("Layout", some "settle"), "settle", "Layout.settle", defArgs s_Layout_settle, defBody s_Layout_settle, defScope s_Layout_settle, [], []⟩,
  ⟨("Layout", some "file_size"), "file_size", "Layout.file_size", defArgs s_Layout_file_size, defBody s_Layout_file_size, defScope s_Layout_file_size, [], []⟩,
  ⟨("place_all", none), "place_all", "place_all", defArgs s_place_all, defBody s_place_all, defScope s_place_all, [], []⟩,
  ⟨("images_of", none), "images_of", "images_of", defArgs s_images_of, defBody s_images_of, defScope s_images_of, [], []⟩,
  ⟨("value_of", none), "value_of", "value_of", defArgs s_value_of, defBody s_value_of, defScope s_value_of, [], []⟩,
  ⟨("target_of", none), "target_of", "target_of", defArgs s_target_of, defBody s_target_of, defScope s_target_of, [], []⟩,
  ⟨("relocate", none), "relocate", "relocate", defArgs s_relocate, defBody s_relocate, defScope s_relocate, [], []⟩]
def FN_3 : List DefD := [⟨("stored", none), "stored", "stored", defArgs s_stored, defBody s_stored, defScope s_stored, [], []⟩,
  ⟨("header_of", none), "header_of", "header_of", defArgs s_header_of, defBody s_header_of, defScope s_header_of, [], []⟩,
  ⟨("program_header", none), "program_header", "program_header", defArgs s_program_header, defBody s_program_header, defScope s_program_header, [], []⟩,
  ⟨("filled", none), "filled", "filled", defArgs s_filled, defBody s_filled, defScope s_filled, [], []⟩,
  ⟨("file_of", none), "file_of", "file_of", defArgs s_file_of, defBody s_file_of, defScope s_file_of, [], []⟩,
  ⟨("objects_of", none), "objects_of", "objects_of", defArgs s_objects_of, defBody s_objects_of, defScope s_objects_of, [], []⟩,
  ⟨("memory_of", none), "memory_of", "memory_of", defArgs s_memory_of, defBody s_memory_of, defScope s_memory_of, [], []⟩,
  ⟨("linked", none), "linked", "linked", defArgs s_linked, defBody s_linked, defScope s_linked, [], []⟩,
  ⟨("link", none), "link", "link", defArgs s_link, defBody s_link, defScope s_link, [], []⟩]
def FN : List DefD := FN_0 ++ FN_1 ++ FN_2 ++ FN_3
def XS : List (PySem.W.Frag → Bool) := [fun K => lstB K "MAGIC" [.int 127, .int 69, .int 76, .int 70, .int 2, .int 1, .int 1],
  fun K => tupB K "KINDS" [.int 0, .int 1, .int 2, .int 4, .int 10, .int 11, .int 24],
  fun K => tupB K "RIGHTS" [.int 5, .int 4, .int 6, .int 6],
  fun K => tupB K "START" [.int 95, .int 115, .int 116, .int 97, .int 114, .int 116],
  exB,
  fun K => eqO (PySem.W.findIn K (.ref (BK K)) "__setattr__") (some (some (.builtin "object.__setattr__"))),
  fun K => eqO (PySem.W.findIn K (.ref (BK K)) "__getattribute__") (some (some (.builtin "BaseException.__getattribute__"))),
  fun K => decide (PySem.W.typeIn K (.ref (ma K (BK K) "__init__")) = some (.type "function")),
  fun K => decide (PySem.W.subIn K (.ref (BK K)) (.type "BaseException") = some true),
  fun K => decide (PySem.W.typeIn K (.ref (BK K)) = some (.type "type")),
  fun K => PySem.W.hasDictIn K (BK K),
  kwN]
/-! ### the Hook -/
def obsX (fa : List Fa) (fn : List DefD) (xs : List (PySem.W.Frag → Bool)) (K : PySem.W.Frag) : AlD := ((fa.all fun f => f.ok K) && ((fn.all fun d => d.ok K) && xs.all fun f => f K), fn.map fun d => fnW K d.at_)
def SaysX (fa : List Fa) (fn : List DefD) (xs : List (PySem.W.Frag → Bool)) (K : PySem.W.Frag) : Prop := obsX fa fn xs K = valD fn
def obsXG (n : Nat) (fa : List Fa) (fn : List DefD) (xs : List (PySem.W.Frag → Bool)) (g : Addr → Option Obj) : AlD := obsX fa fn xs (frG g (asD g n))
def hookX (n : Nat) (fa : List Fa) (fn : List DefD) (xs : List (PySem.W.Frag → Bool)) : PySem.W.Hook where
  α := AlD
  obs := fun s => obsXG n fa fn xs s.heap.get?
  val := fun _ => valD fn
  says := fun _ h => ∃ K : PySem.W.Frag, K.In h ∧ SaysX fa fn xs K
  of := fun _ _ e => ⟨_, frG_in, e⟩
  keeps := fun _ _ _ ⟨K, hK, c⟩ k => ⟨K, PySem.W.Frag.In.keeps hK k, c⟩
theorem obsXG_eq {n : Nat} {fa : List Fa} {fn : List DefD} {xs : List (PySem.W.Frag → Bool)} {g : Addr → Option Obj} {s : Shared} (h : ∀ a, g a = s.heap.get? a) : obsXG n fa fn xs g = (hookX n fa fn xs).obs s := by
  have e : g = s.heap.get? := funext h
  rw [e] <;> rfl
section
variable {fa : List Fa} {fn : List DefD} {xs : List (PySem.W.Frag → Bool)} {K : PySem.W.Frag}
theorem SaysX.all (c : SaysX fa fn xs K) : (fa.all fun f => f.ok K) = true ∧ (fn.all fun d => d.ok K) = true ∧ (xs.all fun f => f K) = true := by
  obtain ⟨h1, h2⟩ := ba (show ((fa.all fun f => f.ok K) && ((fn.all fun d => d.ok K) && xs.all fun f => f K)) = true from congrArg (fun z : AlD => z.1) c)
  obtain ⟨h3, h4⟩ := ba h2
  exact ⟨h1, h3, h4⟩
theorem SaysX.fact (c : SaysX fa fn xs K) (i : Nat) {f : Fa} (h : fa[i]? = some f := by rfl) : f.ok K = true := List.all_eq_true.mp c.all.1 f (List.mem_of_getElem? h)
theorem SaysX.own (c : SaysX fa fn xs K) (i : Nat) {f : PySem.W.Frag → Bool} (h : xs[i]? = some f := by rfl) : f K = true := List.all_eq_true.mp c.all.2.2 f (List.mem_of_getElem? h)
theorem SaysX.def_ (c : SaysX fa fn xs K) (i : Nat) {d : DefD} (h : fn[i]? = some d := by rfl) : ∃ fd, FunD K d.name d.qual d.params d.body d.scope (d.dvs K) (d.kws K) (fAd K d.at_) fd := by
  have e : fn.map (fun d => fnW K d.at_) = fn.map DefD.val := congrArg (fun z : AlD => z.2) c
  have e2 : (fn.map fun d => fnW K d.at_)[i]? = (fn.map DefD.val)[i]? := by rw [e]
  rw [List.getElem?_map, List.getElem?_map, h] at e2
  exact DefD.funD (Option.some.inj e2) (List.all_eq_true.mp c.all.2.1 d (List.mem_of_getElem? h))
end
theorem low_of {K : PySem.W.Frag} {h : Heap} {mg : Str → Option Value} (X : K.In h) (G : h.Ns mainGlobals mg) (c : SaysX FA FN XS K) : PySem.LowX.LowTxt K mg (BK K) (ma K (BK K) "__init__") := by
  obtain ⟨fd, F⟩ := c.def_ 0
  obtain ⟨oc, od, dV, kV, doc, pm, an, cdv, ct, osl, rfl, lk, hcd, hdf, _⟩ := F.ex
  have hk : kV = .none := kwN_ok (c.own 11) lk
  have hd : dV = .none := by
    rcases hdf with ⟨h1, h2⟩ | ⟨h1, _⟩
    · first
        | exact h1
        | exact h2
    · exact absurd rfl h1
  subst hk hd
  obtain ⟨nm, qn, N, bs, bm, sn, sub, ab, col, dd, k0, k1, k2, k3, k5, hC, hbm⟩ := PySem.LowX.exBC_ok (show PySem.LowX.exBC K (BK K) = true from c.own 4)
  exact { gC := glo_ok X G (c.fact 116), cls := ⟨nm, qn, N, bs, bm, sn, sub, ab, col, dd, k0, k1, k2, k3, k5, hC, hbm⟩, sa := eqO_ok (c.own 5), ga := eqO_ok (c.own 6), gg := noat_ok (c.fact 117), noN := noat_ok (c.fact 118), iC := (meth_ok (c.fact 119)).at_, tC := of_decide_eq_true (c.own 7), kC := keep_ok (c.fact 120), exC := of_decide_eq_true (c.own 8), tyC := of_decide_eq_true (c.own 9), hdC := c.own 10, te := exm_ok (c.fact 121), fn := ⟨oc, od, doc, pm, an, cdv, ct, osl, _, _, _, _, _, _, lk, hcd⟩ }
theorem tx_of {K : PySem.W.Frag} {h : Heap} {mg : Str → Option Value} (X : K.In h) (G : h.Ns mainGlobals mg) (c : SaysX FA FN XS K) : Tx K mg :=
  { v_DATA := int_ok X G (c.fact 0),
    v_SYMBOLS := int_ok X G (c.fact 1),
    v_NAMES := int_ok X G (c.fact 2),
    v_RELOCATIONS := int_ok X G (c.fact 3),
    v_ZEROS := int_ok X G (c.fact 4),
    v_ABSOLUTE := int_ok X G (c.fact 5),
    v_COMMON := int_ok X G (c.fact 6),
    v_LOCAL := int_ok X G (c.fact 7),
    v_GLOBAL := int_ok X G (c.fact 8),
    v_MOST_ALIGNMENT := int_ok X G (c.fact 9),
    v_CUT := int_ok X G (c.fact 10),
    v_PAGE := int_ok X G (c.fact 11),
    v_MOST_OBJECTS := int_ok X G (c.fact 12),
    v_MOST_ADDRESS := int_ok X G (c.fact 13),
    v_MOST_SIZE := int_ok X G (c.fact 14),
    v_MOST_MEMORY := int_ok X G (c.fact 15),
    g_MAGIC := glo_ok X G (c.fact 16),
    g_KINDS := glo_ok X G (c.fact 17),
    g_RIGHTS := glo_ok X G (c.fact 18),
    g_START := glo_ok X G (c.fact 19),
    t_MAGIC := fun H => lstB_ok (c.own 0) H,
    t_KINDS := fun H => tupB_ok (c.own 1) H,
    t_RIGHTS := fun H => tupB_ok (c.own 2) H,
    t_START := fun H => tupB_ok (c.own 3) H,
    b_range := free_ok X G (c.fact 20),
    b_len := free_ok X G (c.fact 21),
    b_tuple := free_ok X G (c.fact 22),
    b_max := free_ok X G (c.fact 23),
    b_any := free_ok X G (c.fact 24),
    b_sum := free_ok X G (c.fact 25),
    b_list := free_ok X G (c.fact 26),
    c_Section := cls_ok (c.fact 27),
    k_Section := mkr_ok (c.fact 28),
    g_Section := glo_ok X G (c.fact 29),
    n_Section_sort_of := noat_ok (c.fact 30),
    n_Section_flags := noat_ok (c.fact 31),
    n_Section_begin := noat_ok (c.fact 32),
    n_Section_size := noat_ok (c.fact 33),
    n_Section_linked := noat_ok (c.fact 34),
    n_Section_info := noat_ok (c.fact 35),
    n_Section_alignment := noat_ok (c.fact 36),
    n_Section_entry := noat_ok (c.fact 37),
    n_Section_place := noat_ok (c.fact 38),
    n_Section_address := noat_ok (c.fact 39),
    m_Section_has := meth_ok (c.fact 40),
    m_Section_is_loaded := meth_ok (c.fact 41),
    m_Section_class_of := meth_ok (c.fact 42),
    c_Symbol := cls_ok (c.fact 43),
    k_Symbol := mkr_ok (c.fact 44),
    g_Symbol := glo_ok X G (c.fact 45),
    n_Symbol_name := noat_ok (c.fact 46),
    n_Symbol_binding := noat_ok (c.fact 47),
    n_Symbol_section := noat_ok (c.fact 48),
    n_Symbol_value := noat_ok (c.fact 49),
    n_Symbol_size := noat_ok (c.fact 50),
    m_Symbol_is_definition := meth_ok (c.fact 51),
    c_Relocation := cls_ok (c.fact 52),
    k_Relocation := mkr_ok (c.fact 53),
    g_Relocation := glo_ok X G (c.fact 54),
    n_Relocation_section := noat_ok (c.fact 55),
    n_Relocation_offset := noat_ok (c.fact 56),
    n_Relocation_kind := noat_ok (c.fact 57),
    n_Relocation_symbol := noat_ok (c.fact 58),
    n_Relocation_addend := noat_ok (c.fact 59),
    m_Relocation_width := meth_ok (c.fact 60),
    c_Told := cls_ok (c.fact 61),
    k_Told := mkr_ok (c.fact 62),
    g_Told := glo_ok X G (c.fact 63),
    n_Told_row := noat_ok (c.fact 64),
    n_Told_sections := noat_ok (c.fact 65),
    n_Told_symbols := noat_ok (c.fact 66),
    n_Told_relocations := noat_ok (c.fact 67),
    c_Name := cls_ok (c.fact 68),
    k_Name := mkr_ok (c.fact 69),
    g_Name := glo_ok X G (c.fact 70),
    n_Name_symbols := noat_ok (c.fact 71),
    n_Name_definition := noat_ok (c.fact 72),
    n_Name_is_common := noat_ok (c.fact 73),
    n_Name_size := noat_ok (c.fact 74),
    n_Name_alignment := noat_ok (c.fact 75),
    n_Name_address := noat_ok (c.fact 76),
    m_Name_settle := meth_ok (c.fact 77),
    m_Name_is_nothing := meth_ok (c.fact 78),
    m_Name_whereabouts := meth_ok (c.fact 79),
    c_Layout := cls_ok (c.fact 80),
    k_Layout := mkr_ok (c.fact 81),
    g_Layout := glo_ok X G (c.fact 82),
    n_Layout_address := noat_ok (c.fact 83),
    n_Layout_sizes := noat_ok (c.fact 84),
    n_Layout_begins := noat_ok (c.fact 85),
    m_Layout_put := meth_ok (c.fact 86),
    m_Layout_settle := meth_ok (c.fact 87),
    m_Layout_file_size := meth_ok (c.fact 88),
    d_check := c.def_ 1,
    g_check := glo_ok X G (c.fact 89),
    d_number_at := c.def_ 2,
    g_number_at := glo_ok X G (c.fact 90),
    d_is_alignment := c.def_ 3,
    g_is_alignment := glo_ok X G (c.fact 91),
    d_Section_init := c.def_ 4,
    d_Section_has := c.def_ 5,
    d_Section_is_loaded := c.def_ 6,
    d_Section_class_of := c.def_ 7,
    d_Symbol_init := c.def_ 8,
    d_Symbol_is_definition := c.def_ 9,
    d_Relocation_init := c.def_ 10,
    d_Relocation_width := c.def_ 11,
    d_Told_init := c.def_ 12,
    d_sections_of := c.def_ 13,
    g_sections_of := glo_ok X G (c.fact 92),
    d_check_sections := c.def_ 14,
    g_check_sections := glo_ok X G (c.fact 93),
    d_bytes_of := c.def_ 15,
    g_bytes_of := glo_ok X G (c.fact 94),
    d_name_at := c.def_ 16,
    g_name_at := glo_ok X G (c.fact 95),
    d_check_symbol := c.def_ 17,
    g_check_symbol := glo_ok X G (c.fact 96),
    d_symbols_of := c.def_ 18,
    g_symbols_of := glo_ok X G (c.fact 97),
    d_relocations_of := c.def_ 19,
    g_relocations_of := glo_ok X G (c.fact 98),
    d_Name_init := c.def_ 20,
    d_Name_settle := c.def_ 21,
    d_Name_is_nothing := c.def_ 22,
    d_Name_whereabouts := c.def_ 23,
    d_address_of := c.def_ 24,
    g_address_of := glo_ok X G (c.fact 99),
    d_names_of := c.def_ 25,
    g_names_of := glo_ok X G (c.fact 100),
    d_raised := c.def_ 26,
    g_raised := glo_ok X G (c.fact 101),
    d_Layout_init := c.def_ 27,
    d_Layout_put := c.def_ 28,
    d_Layout_settle := c.def_ 29,
    d_Layout_file_size := c.def_ 30,
    d_place_all := c.def_ 31,
    g_place_all := glo_ok X G (c.fact 102),
    d_images_of := c.def_ 32,
    g_images_of := glo_ok X G (c.fact 103),
    d_value_of := c.def_ 33,
    g_value_of := glo_ok X G (c.fact 104),
    d_target_of := c.def_ 34,
    g_target_of := glo_ok X G (c.fact 105),
    d_relocate := c.def_ 35,
    g_relocate := glo_ok X G (c.fact 106),
    d_stored := c.def_ 36,
    g_stored := glo_ok X G (c.fact 107),
    d_header_of := c.def_ 37,
    g_header_of := glo_ok X G (c.fact 108),
    d_program_header := c.def_ 38,
    g_program_header := glo_ok X G (c.fact 109),
    d_filled := c.def_ 39,
    g_filled := glo_ok X G (c.fact 110),
    d_file_of := c.def_ 40,
    g_file_of := glo_ok X G (c.fact 111),
    d_objects_of := c.def_ 41,
    g_objects_of := glo_ok X G (c.fact 112),
    d_memory_of := c.def_ 42,
    g_memory_of := glo_ok X G (c.fact 113),
    d_linked := c.def_ 43,
    g_linked := glo_ok X G (c.fact 114),
    d_link := c.def_ 44,
    g_link := glo_ok X G (c.fact 115),
    low := low_of X G c }
end Lk

set_option Elab.async false
set_option linter.all false
set_option maxRecDepth 100000
set_option maxHeartbeats 0
/-! # The module's import, run in the kernel -/
namespace Lk
open PySem PySem.Spec PyProof.Rows L2 Evl He PySem.Calls
abbrev qv : Program := PySem.W.view pw [59]
def lo_0 : List Str := ["DATA", "SYMBOLS", "NAMES", "RELOCATIONS", "ZEROS", "ABSOLUTE", "COMMON", "LOCAL", "GLOBAL", "MOST_ALIGNMENT", "MAGIC", "KINDS", "Broken", "check", "number_at", "is_alignment", "Section", "Symbol", "Relocation", "sections_of", "check_sections", "bytes_of", "name_at", "check_symbol", "symbols_of", "relocations_of", "Told"]
def lo_1 : List Str := ["CUT", "Name", "address_of", "names_of", "PAGE", "raised", "Layout", "place_all", "images_of", "value_of", "target_of", "relocate", "RIGHTS", "stored", "header_of", "program_header", "filled", "file_of", "MOST_OBJECTS", "MOST_ADDRESS", "MOST_SIZE", "MOST_MEMORY", "START", "objects_of", "memory_of", "linked"]
def lo : List Str := lo_0 ++ lo_1
def hk : PySem.W.Hook := hookX 6 FA FN XS
def ob (s : PySem.W.SharedT) : AlD := obsXG 6 FA FN XS (HandSHeadRun.getT s)
theorem ob_eq (s : PySem.W.SharedT) : ob s = hk.obs s.abs := obsXG_eq (HandSHeadRun.getT_eq s)
theorem run (w : World) (os : OsState) : (HandSHeadRun.endF (HandSHeadRun.stepQ (HandSHeadRun.denQ HandSHeadRun.tabQ) pw w) 3200 pw w os).map (fun s => (HandSHeadRun.looksF pw (PySem.W.boot_heap w.params) s.abs, HandSHeadRun.seenQ qv lo (importedModules pw.main.body) (fun s => PySem.W.xlAt qv [] s && PySem.W.recOk [] s) s.abs, ob s)) = some (true, PySem.W.openGood qv lo, hk.val w) := by
  kernel_rfl
end Lk

set_option Elab.async false
set_option linter.all false
set_option maxRecDepth 100000
set_option maxHeartbeats 4000000
/-! # The end: what is answered is what the specification answers; the def called from outside -/
namespace Lk
open PySem PySem.Spec PyProof.Rows L2 Evl He
open PySem.W (WData Codec OpenSpec)
open PySem.Calls
/-! ### the specification's answer -/
theorem nats_iv {l : List Int} (h : ∀ x ∈ l, 0 ≤ x) : l.map V.int = iv (Sn17Neutral.nats l) := by
  unfold iv Sn17Neutral.nats
  rw [List.map_map]
  exact List.map_congr_left fun x m => by
    show V.int x = V.int ((x.toNat : Nat) : Int)
    rw [Int.toNat_of_nonneg (h x m)]
theorem foldl_sum : ∀ (l : List Int) (a : Int), l.foldl (fun (x y : Int) => x + y) a = a + l.sum
  | [], a => by simp
  | x :: r, a => by
    rw [List.foldl_cons, foldl_sum r, List.sum_cons]
    omega
theorem nats_sum : ∀ {l : List Int}, (∀ x ∈ l, 0 ≤ x) → ((Sn17Neutral.nats l).sum : Int) = l.sum
  | [], _ => rfl
  | x :: r, h => by
    have ih := nats_sum (l := r) fun y hy => h y (List.mem_cons_of_mem _ hy)
    have hx := h x (List.mem_cons_self ..)
    show (((x.toNat :: Sn17Neutral.nats r).sum : Nat) : Int) = _
    rw [List.sum_cons, List.sum_cons]
    omega
structure Fin (ad mx : Int) (ss os : List Int) : Prop where
  ad0 : 0 ≤ ad
  ss0 : ∀ x ∈ ss, 0 ≤ x
  sl : ss.length ≤ 64
  os0 : ∀ x ∈ os, 0 ≤ x
  ob : ∀ x ∈ Sn17Neutral.nats os, x < 256
  ol : os.length ≤ 65536
  is : PySn17.link ad mx ss os = linkA ad.toNat mx (Sn17Neutral.nats ss) (Sn17Neutral.nats os)
  few : (PySn17.link ad mx ss os).length ≤ 1000000
theorem answered_eq (b : Nat) (mx : Int) (sz by_ : List Nat) (h : sz.sum ≤ 65536) : Sn17Neutral.answered ⟨by_, (sz.length : Int), sz, b, mx⟩ = linkA b mx sz by_ := by
  unfold Sn17Neutral.answered linkA
  dsimp only
  rw [Int.toNat_natCast, List.take_length]
  have hc : ((sz.length : Int) < 1 ∨ (Sn17.MOSTOBJECTS : Int) < (sz.length : Int) ∨ Sn17.MOST < sz.sum ∨ b % Sn17.PAGE ≠ 0 ∨ 2 ^ 46 ≤ b ∨ mx < 0 ∨ (4 * Sn17.MOST : Int) < mx) ↔ (sz.length < 1 ∨ 64 < sz.length ∨ b % 4096 ≠ 0 ∨ 2 ^ 46 ≤ b ∨ mx < 0 ∨ 16777216 < mx) := by
    unfold Sn17.MOSTOBJECTS Sn17.MOST Sn17.PAGE
    constructor
    · rintro (k | k | k | k | k | k | k)
      · exact .inl (by omega)
      · exact .inr (.inl (by omega))
      · omega
      · exact .inr (.inr (.inl k))
      · exact .inr (.inr (.inr (.inl k)))
      · exact .inr (.inr (.inr (.inr (.inl k))))
      · exact .inr (.inr (.inr (.inr (.inr (by omega)))))
    · rintro (k | k | k | k | k | k)
      · exact .inl (by omega)
      · exact .inr (.inl (by omega))
      · exact .inr (.inr (.inr (.inl k)))
      · exact .inr (.inr (.inr (.inr (.inl k))))
      · exact .inr (.inr (.inr (.inr (.inr (.inl k)))))
      · exact .inr (.inr (.inr (.inr (.inr (.inr (by omega))))))
  by_cases c : sz.length < 1 ∨ 64 < sz.length ∨ b % 4096 ≠ 0 ∨ 2 ^ 46 ≤ b ∨ mx < 0 ∨ 16777216 < mx
  · rw [if_pos (hc.mpr c), if_pos c]
  · rw [if_neg (fun z => c (hc.mp z)), if_neg c]
    unfold linkP
    cases (Sn17.cut sz by_).mapM Sn17.object with
    | error e => rfl
    | ok os =>
      dsimp only
      show (if 4194304 < memS os then [-4] else _) = _
      by_cases hm : 4194304 < memS os
      · rw [if_pos hm, if_pos hm]
      · rw [if_neg hm, if_neg hm]
        cases Sn17.link b (Sn17.cut sz by_) with
        | error e => rfl
        | ok f =>
          dsimp only
          by_cases hf : mx < (f.length : Int)
          · rw [if_pos hf, if_pos hf]
          · rw [if_neg hf, if_neg hf]
            rfl
theorem fin_of {ad mx : Int} {ss os : List Int} (h : PySn17.link_asked ad mx ss os = true) : Fin ad mx ss os := by
  unfold PySn17.link_asked Sn17Neutral.asked at h
  rw [Bool.and_eq_true] at h
  obtain ⟨h1, h2⟩ := h
  have h2' := of_decide_eq_true h2
  have h1' : (Sn17Neutral.whole64 (ss.length : Int) && (Sn17Neutral.natural ad 64 && (Sn17Neutral.whole64 mx && (ss.all (fun (z : Int) => Sn17Neutral.natural z 64) && (Sn17Neutral.long ss (ss.length : Int) 1 64 && (Sn17Neutral.bytes os && (decide (os.length ≤ 65536) && decide ((os.length : Int) = ss.foldl (fun (x y : Int) => x + y) 0)))))))) = true := h1
  simp only [Bool.and_eq_true] at h1'
  obtain ⟨_, k2, _, k4, k5, k6, k7, k8⟩ := h1'
  have had : 0 ≤ ad := by
    unfold Sn17Neutral.natural at k2
    rw [Bool.and_eq_true] at k2
    exact of_decide_eq_true k2.1
  have hss : ∀ x ∈ ss, 0 ≤ x := fun x m => by
    have z := List.all_eq_true.mp k4 x m
    unfold Sn17Neutral.natural at z
    rw [Bool.and_eq_true] at z
    exact of_decide_eq_true z.1
  have hos : ∀ x ∈ os, 0 ≤ x ∧ x < 256 := fun x m => by
    unfold Sn17Neutral.bytes at k6
    have z := List.all_eq_true.mp k6 x m
    unfold Sn17Neutral.natural at z
    rw [Bool.and_eq_true] at z
    have z2 := of_decide_eq_true z.2
    exact ⟨of_decide_eq_true z.1, by omega⟩
  have hsl : ss.length ≤ 64 := by
    unfold Sn17Neutral.long at k5
    have z := of_decide_eq_true k5
    split at z
    · omega
    · omega
  have hol : os.length ≤ 65536 := of_decide_eq_true k7
  have hsum := of_decide_eq_true k8
  rw [foldl_sum, ← nats_sum hss] at hsum
  have hle : (Sn17Neutral.nats ss).sum ≤ 65536 := by omega
  have hl : (Sn17Neutral.nats ss).length = ss.length := by
    unfold Sn17Neutral.nats
    rw [List.length_map]
  refine ⟨had, hss, hsl, fun x m => (hos x m).1, fun x m => ?_, hol, ?_, h2'⟩
  · unfold Sn17Neutral.nats at m
    obtain ⟨y, my, rfl⟩ := List.mem_map.mp m
    have := hos y my
    omega
  · rw [← answered_eq _ _ _ _ hle, hl]
    rfl
/-! ### called from outside -/
theorem walk_specE {r : OpenSpec} {k : Nat} {q : Program} {loose : List Str} {XP : (Str → Option Value) → Heap → Prop} {YP : World → Heap → Prop} {d : DefRec} {CX : CXT} {ps : List Str}
    (hwell : r.wellSaid = true) (hdf : d.params.defaults = []) (hlen : r.args.length = ps.length) (hr : Room k callerA)
    (F : ∀ (w : World) (mg : Str → Option Value) (fa : Addr) (h : Heap), YP w h → h.Ns mainGlobals mg → mg d.name = some (.ref fa) →
      ∃ (K : PySem.W.Frag) (fd : FuncData) (sp : Sp), K.In h ∧ (∀ (s : Shared) (us : List Value), us.length = ps.length → BindsTo s fd ⟨us, []⟩ (ps.zip us)) ∧
        (∀ (H : Hp) (xs : List V) (a : Codec.denoteAll r.args), OnlyF H → Codec.withinAll r.args a = true → Codec.app r.args r.asked a = true → DwAll K H xs (Codec.encAll r.args a) →
          sp xs H (fun v H' => Dw K H' v (r.ret.enc (Codec.app r.args r.f a))) fun _ _ _ => False) ∧
        ∀ base : Heap, K.In base → base.Ns mainGlobals mg → FnOk r.prog w K mg base CX k fa fd ps sp)
    (hCX : ∀ (H : Hp) (s : Shared) (e : Value) (s' : Shared), CX [] H s (fun _ _ _ => False) e s' → False) :
    PySem.W.WalkOS q loose XP YP r d [] (fun f vs => PySem.call f vs) := by
  intro w s₀ s₁ mg mb G Y fa o pm cd doc dV kV ho hd hcd hD hmg hg args vals as hpre hlay hrd hwl hlo
  obtain ⟨a, e1, e2⟩ := PySem.W.os_pre_some hpre
  obtain ⟨e3, hwi⟩ := Codec.encAll_of_decAll r.args args a e1
  subst e3
  obtain ⟨K, fd, sp, KX, hb, hsp, hF⟩ := F w mg fa _ Y G.T.g hmg
  refine PySem.W.enter_call (codeAny_mono (spec_call (R := []) (cl := classAt s₀.heap) (d0 := r.ret.enc (Codec.app r.args r.f a)) KX G.T.g G.T.b G.T.builtins G.T.nolimit hg hwl (pl_encAll _ _) (layable_weight hlay) hr hF hb (by rw [encAll_len]; exact hlen)
    (fun H xs hO hS => hsp H xs a hO hwi e2 hS) fun H e s' => hCX H s₁ e s') fun r' s' hq => ?_)
  obtain ⟨u, as', rfl, h1, h2, h3, h4⟩ := hq
  exact ⟨.inl ⟨u, _, as', rfl, fun _ => rfl, h1, (OpenSpec.post_iff hwell hwi _ _).mpr rfl, fun z => Bool.noConfusion (show false = true from z)⟩, h2, h3, h4⟩
theorem link_facts {w : World} {K : PySem.W.Frag} {h : Heap} {mg : Str → Option Value} {f : Addr} (X : K.In h) (G : h.Ns mainGlobals mg) (hfa : mg ("link" : Str) = some (.ref f)) (c : SaysX FA FN XS K) :
    ∃ fd : FuncData, (∀ (s : Shared) (us : List Value), us.length = (["address", "max_size", "sizes", "objects"] : List Str).length → BindsTo s fd ⟨us, []⟩ ((["address", "max_size", "sizes", "objects"] : List Str).zip us)) ∧
      ∀ base : Heap, K.In base → base.Ns mainGlobals mg → FnOk pw w K mg base CX0 11 f fd ["address", "max_size", "sizes", "objects"] (spLink K) := by
  have T := tx_of X G c
  obtain ⟨fd, F⟩ := T.d_link
  have e := hfa.symm.trans T.g_link
  cases e
  refine ⟨fd, ?_, fun base _ _ => ok_link T F⟩
  obtain ⟨oc, od, dV, kV, doc, pm, an, cdv, ct, osl, rfl, lk, hcd, hdf, _⟩ := F.ex
  have hd : dV = .none := by
    rcases hdf with ⟨h1, h2⟩ | ⟨h1, _⟩
    · first
        | exact h1
        | exact h2
    · exact absurd rfl h1
  subst hd
  intro s us hu
  exact match us, hu with | [_, _, _, _], _ => .of_eq rfl
theorem link_end {K : PySem.W.Frag} {H : Hp} {xs : List V} {ad mx : Int} {ss os : List Int} (h : PySn17.link_asked ad mx ss os = true) (hx : DwAll K H xs [.int ad, .int mx, .list (ss.map WData.int), .list (os.map WData.int)]) :
    spLink K xs H (fun v H' => Dw K H' v (.list ((PySn17.link ad mx ss os).map WData.int))) fun _ _ _ => False := by
  have fin := fin_of h
  cases hx with
  | cons h1 hx =>
    cases h1
    cases hx with
    | cons h2 hx =>
      cases h2
      cases hx with
      | cons h3 hx =>
        cases hx with
        | cons h4 hx =>
          cases hx
          cases h3 with
          | lst hs ha =>
            cases h4 with
            | lst ho hb =>
              have e1 := ints_dw ss _ ha
              have e2 := ints_dw os _ hb
              subst e1 e2
              rw [nats_iv fin.ss0] at hs
              rw [nats_iv fin.os0] at ho
              refine ⟨ad.toNat, _, _, mx, Sn17Neutral.nats ss, Sn17Neutral.nats os, ?_, hs, ?_, ⟨ho, ?_, fin.ob⟩, ?_, fun p H' hp => ?_⟩
              · show _ = [V.int ((ad.toNat : Nat) : Int), _, _, _]
                rw [Int.toNat_of_nonneg fin.ad0]
              · unfold Sn17Neutral.nats
                rw [List.length_map]
                exact fin.sl
              · unfold Sn17Neutral.nats
                rw [List.length_map]
                exact fin.ol
              · rw [← fin.is]
                exact fin.few
              · rw [← fin.is] at hp
                exact .lst (SqL.of hp) (dw_ints _)
end Lk

set_option Elab.async false
set_option linter.all false
set_option maxRecDepth 100000
set_option maxHeartbeats 8000000
/-! # The row -/
namespace Lk
open PySem PySem.W PySem.Calls PyProof.Rows
theorem left : LeftO pw qv lo (fun s => xlAt qv [] s && recOk [] s) hk.obs hk.val 3800 true :=
  HandSHeadRun.left_one (M := 3200) (by kernel_rfl) rfl (fun s => by kernel_rfl) rfl fun w os => by
    have z := run w os
    have eo : ob = fun s => hk.obs s.abs := funext ob_eq
    rw [eo] at z
    simp only [HandSHeadRun.endQ_eq, HandSHeadRun.seenQ_eq]
    exact z
theorem hsp_gen {A : Codec.fn Bool PySem.Challenge.fa_objectlinker_s01_link} {f : Codec.fn PySem.Challenge.fr_objectlinker_s01_link.denote PySem.Challenge.fa_objectlinker_s01_link} {K : Frag} {H : L2.Hp} {xs : List L2.V} {E : L2.XK} (a : Codec.denoteAll PySem.Challenge.fa_objectlinker_s01_link)
    (hask : Codec.app PySem.Challenge.fa_objectlinker_s01_link A a = true) (hx : L2.DwAll K H xs (Codec.encAll PySem.Challenge.fa_objectlinker_s01_link a))
    (k : ∀ (ad mx : Int) (ss os : List Int), A ad mx ss os = true → L2.DwAll K H xs [.int ad, .int mx, .list (ss.map WData.int), .list (os.map WData.int)] → spLink K xs H (fun v H' => L2.Dw K H' v (PySem.Challenge.fr_objectlinker_s01_link.enc (f ad mx ss os))) E) :
    spLink K xs H (fun v H' => L2.Dw K H' v (PySem.Challenge.fr_objectlinker_s01_link.enc (Codec.app PySem.Challenge.fa_objectlinker_s01_link f a))) E := by
  obtain ⟨ad, mx, ss, os, u⟩ := a
  exact k ad mx ss os hask hx
theorem end_gen {A : Codec.fn Bool PySem.Challenge.fa_objectlinker_s01_link} {f : Codec.fn PySem.Challenge.fr_objectlinker_s01_link.denote PySem.Challenge.fa_objectlinker_s01_link}
    (hwell : (OpenSpec.mk pw PySem.Challenge.nm_objectlinker_s01_link PySem.Challenge.fa_objectlinker_s01_link PySem.Challenge.fr_objectlinker_s01_link A f).wellSaid = true)
    (k : ∀ (K : Frag) (H : L2.Hp) (xs : List L2.V) (ad mx : Int) (ss os : List Int), A ad mx ss os = true → L2.DwAll K H xs [.int ad, .int mx, .list (ss.map WData.int), .list (os.map WData.int)] → spLink K xs H (fun v H' => L2.Dw K H' v (PySem.Challenge.fr_objectlinker_s01_link.enc (f ad mx ss os))) fun _ _ _ => False) :
    WalkOS qv lo (XL qv []) hk.says (OpenSpec.mk pw PySem.Challenge.nm_objectlinker_s01_link PySem.Challenge.fa_objectlinker_s01_link PySem.Challenge.fr_objectlinker_s01_link A f) (HandSHeadRun.topDef pw 59) [] (fun f vs => PySem.call f vs) := by
  refine walk_specE (k := 11) (CX := L2.CX0) (ps := ["address", "max_size", "sizes", "objects"]) hwell (by kernel_rfl) rfl ⟨rfl, by decide, by decide⟩ ?F (fun _ _ _ _ z => z)
  intro w mg fa h Y G hmg0
  obtain ⟨K, KX, c⟩ := Y
  have hmg : mg ("link" : PySem.Str) = some (.ref fa) := by
    have e : (HandSHeadRun.topDef pw 59).name = ("link" : PySem.Str) := by kernel_rfl
    rw [← e]
    exact hmg0
  obtain ⟨fd, hb, hF⟩ := link_facts (w := w) KX G hmg c
  exact ⟨K, fd, spLink K, KX, hb, fun H xs a hO hwi hask hx => hsp_gen a hask hx (k K H xs), hF⟩
theorem enc_fr (l : List Int) : PySem.Challenge.fr_objectlinker_s01_link.enc l = .list (l.map WData.int) := rfl
end Lk
open PySem PySem.W PySem.Calls PyProof.Rows
theorem PySem.Challenge.cw_objectlinker_s01_link_holds : PySem.Challenge.rw_objectlinker_s01_link.Holds := by
  refine holds_os (r := PySem.Challenge.rw_objectlinker_s01_link) (q := Lk.qv) (loose := Lk.lo) (XP := XL Lk.qv []) (YP := Lk.hk.says) (d := HandSHeadRun.topDef Lk.pw 59) (kwd := []) Lk.left Lk.hk.of Lk.hk.keeps
    (fun s z => xl_of s (Bool.and_eq_true_iff.mp z).1) XL.keeps (by kernel_rfl) (by kernel_rfl) (by kernel_rfl) (fun s z => recFacts_of (Bool.and_eq_true_iff.mp z).2) os_shapes (by first | assumption | decide +kernel) (by decide +kernel) ⟨rfl, rfl, rfl, rfl, rfl, by decide +kernel⟩ ?hw ?hc
  case hw => exact ⟨[.int 0, .int 0, .list [], .list []], by decide +kernel, by decide +kernel⟩
  case hc =>
    refine Lk.end_gen (A := @PySn17.link_asked) (f := @PySn17.link) (by decide +kernel) fun K H xs ad mx ss os h1 h2 => ?_
    have z := Lk.link_end h1 h2
    rw [← Lk.enc_fr] at z
    exact z

