import PyProof.Rows.All
import Wide.All
import OpenK.AllK
import Wide.FinOn
import HandS.ForMost
import HandS.Exc
import HandS.WordsExc
import HandS.TryMany
import HandS.ExcInit
import HandS.ExcField
import HandS.Defaults
import HandS.IsInst
import HandS.OwnEq
import HandS.DictComp
import HandS.SetKeys
import HandS.Walk
import HandS.Flow
import HandS.Conv
import HandS.TupAny
import HandS.Zip
import HandS.Style
import HandS.HeadHook1
import HandS.HeadHook2
import HandS.HeadHook3
import HandS.HeadHook4
import KE.GoesNew
import KE.GoesEnum
import HandS.RaiseMore
import PyProof.StrOps2
import HandS.SetBool
import HandS.SetFor
import HandS.SetTxt0
import PyProof.Rows.SortShellAny
import KE.KOpsOwn
import PyProof.InstNe
import KE.KStateDown
import HandS.Head0
import HandS.Head1
import HandS.Head2
import HandS.HeadEnd
import KE.IntTextLaws
import HandS.TryOnly
import PySem.Challenge.RW_readmoments_k19_texts_refused
set_option Elab.async false
set_option linter.all false
set_option maxRecDepth 100000
set_option maxHeartbeats 2000000
namespace RM
open PySem PySem.Spec PyProof.Rows L2

/-! ### calls by promise -/
section
variable (P : Program) (w : World) (K : PySem.W.Frag) (mg : Str → Option Value) (base : Heap) (CX : CXT)
/-- a def by its global name -/
def Cal (k : Nat) (x : Str) (sp : Sp) : Prop :=
  ∃ (f : Addr) (fd : FuncData) (ps : List Str), FnOk P w K mg base CX k f fd ps sp ∧ mg x = some (.ref f) ∧ PySem.W.keepIn K (.ref f) = true ∧ Binds K fd ps []
/-- the class at C: its method m -/
def Met (k : Nat) (C : Addr) (m : Str) (sp : Sp) : Prop :=
  ∃ (f : Addr) (fd : FuncData) (ps : List Str), Cls K C ∧ Meth K C m f ∧ FnOk P w K mg base CX k f fd ps sp ∧ Binds K fd ps []
/-- a class that is made by its name; sp: its __init__ -/
def Mak (k : Nat) (x : Str) (C : Addr) (sp : Sp) : Prop :=
  ∃ (f : Addr) (fd : FuncData) (ps : List Str), Mk K C f ∧ FnOk P w K mg base CX k f fd ps sp ∧ mg x = some (.ref C) ∧ Binds K fd ps []
end
section
variable {P : Program} {w : World} {K : PySem.W.Frag} {mg : Str → Option Value} {base : Heap} {CX : CXT} {k : Nat} {x m : Str} {C : Addr} {sp : Sp}
theorem Cal.mono {j : Nat} (c : Cal P w K mg base CX j x sp) (h : j ≤ k) : Cal P w K mg base CX k x sp := let ⟨f, fd, ps, F, a, b, d⟩ := c; ⟨f, fd, ps, F.mono h, a, b, d⟩
theorem Met.mono {j : Nat} (c : Met P w K mg base CX j C m sp) (h : j ≤ k) : Met P w K mg base CX k C m sp := let ⟨f, fd, ps, a, b, F, d⟩ := c; ⟨f, fd, ps, a, b, F.mono h, d⟩
theorem Mak.mono {j : Nat} (c : Mak P w K mg base CX j x C sp) (h : j ≤ k) : Mak P w K mg base CX k x C sp := let ⟨f, fd, ps, a, F, b, d⟩ := c; ⟨f, fd, ps, a, F.mono h, b, d⟩
theorem Cal.imp {sp' : Sp} (c : Cal P w K mg base CX k x sp) (h : ∀ vs H Q E, sp' vs H Q E → sp vs H Q E) : Cal P w K mg base CX k x sp' := let ⟨f, fd, ps, F, a, b, d⟩ := c; ⟨f, fd, ps, F.imp h, a, b, d⟩
theorem Met.imp {sp' : Sp} (c : Met P w K mg base CX k C m sp) (h : ∀ vs H Q E, sp' vs H Q E → sp vs H Q E) : Met P w K mg base CX k C m sp' := let ⟨f, fd, ps, a, b, F, d⟩ := c; ⟨f, fd, ps, a, b, F.imp h, d⟩
/-- nothing leaves by an error: the body's form -/
def Body0 (P : Program) (w : World) (K : PySem.W.Frag) (mg : Str → Option Value) (base : Heap) (N : List Str) (qual : Str) (st : Stmt) (f : Addr) (k : Nat) (sp : Sp) : Prop :=
  ∀ (cdv : Value) (A : Around) (outer : List Env) (s : Shared) (H : Hp) (vs : List V) (Q : VK) (E : XK), Room k (A.deeper (envOfC qual (defScope st) s.heap.objs.size f cdv)) → sp vs H Q E →
    ∃ t, PSs (cxOf CX0 P w K mg base N qual (defScope st) f cdv A outer s H E).nox (defBody st) t ∧ t { nx := fun _ H' => Q .non H', rt := Q } (start N vs) H
theorem fn_0 {qual : Str} {st : Stmt} {f : Addr} {fd : FuncData} {N ps : List Str} (F : FunD K x qual (defArgs st) (defBody st) (defScope st) [] [] f fd) (S : FnScope N ps (defScope st))
    (len : ∀ vs H Q E, sp vs H Q E → vs.length = ps.length) (h : Body0 P w K mg base N qual st f k sp) : FnOk P w K mg base CX0 (k + 1) f fd ps sp :=
  F.ok S len fun cdv A outer s H vs Q E hr hsp => let ⟨t, a, b⟩ := h cdv A outer s H vs Q E hr hsp; ⟨t, a.nox, b⟩
theorem cal_0 {st : Stmt} {f : Addr} {N ps : List Str} (F : ∃ fd, FunD K x x (defArgs st) (defBody st) (defScope st) [] [] f fd) (hm : mg x = some (.ref f)) (S : FnScope N ps (defScope st))
    (hb : ∀ (kV doc pm : Value) (an : Option Addr) (cdv ct : Value) (us : List Value), us.length = ps.length → bindArgs (PySem.W.fnOf x x (defArgs st) (defBody st) (defScope st) .none kV doc pm an cdv ct) ⟨us, []⟩ = pure (ps.zip us))
    (len : ∀ vs H Q E, sp vs H Q E → vs.length = ps.length) (h : Body0 P w K mg base N x st f k sp) : Cal P w K mg base CX0 (k + 1) x sp :=
  let ⟨fd, F⟩ := F
  ⟨f, fd, ps, fn_0 F S len h, hm, F.kp, F.bindsN hb⟩
theorem cal_never {x : Str} {st : Stmt} {f : Addr} {ps : List Str} {sp : Sp} {k : Nat} (F : ∃ fd, FunD K x x (defArgs st) (defBody st) (defScope st) [] [] f fd) (hm : mg x = some (.ref f))
    (hb : ∀ (kV doc pm : Value) (an : Option Addr) (cdv ct : Value) (us : List Value), us.length = ps.length → bindArgs (PySem.W.fnOf x x (defArgs st) (defBody st) (defScope st) .none kV doc pm an cdv ct) ⟨us, []⟩ = pure (ps.zip us))
    (no : ∀ vs H Q E, ¬ sp vs H Q E) : Cal P w K mg base CX0 k x sp :=
  let ⟨fd, F⟩ := F
  ⟨f, fd, ps, ⟨fun vs H Q E h => absurd h (no vs H Q E), fun A outer s H args us vs Q E _ _ _ _ h => absurd h (no vs H Q E)⟩, hm, F.kp, F.bindsN hb⟩
theorem met_0 {qual : Str} {st : Stmt} {f : Addr} {N ps : List Str} (F : ∃ fd, FunD K m qual (defArgs st) (defBody st) (defScope st) [] [] f fd) (c : Cls K C) (me : Meth K C m f) (S : FnScope N ps (defScope st))
    (hb : ∀ (kV doc pm : Value) (an : Option Addr) (cdv ct : Value) (us : List Value), us.length = ps.length → bindArgs (PySem.W.fnOf m qual (defArgs st) (defBody st) (defScope st) .none kV doc pm an cdv ct) ⟨us, []⟩ = pure (ps.zip us))
    (len : ∀ vs H Q E, sp vs H Q E → vs.length = ps.length) (h : Body0 P w K mg base N qual st f k sp) : Met P w K mg base CX0 (k + 1) C m sp :=
  let ⟨fd, F⟩ := F
  ⟨f, fd, ps, c, me, fn_0 F S len h, F.bindsN hb⟩
theorem mak_0 {qual : Str} {st : Stmt} {f : Addr} {N ps : List Str} (F : ∃ fd, FunD K "__init__" qual (defArgs st) (defBody st) (defScope st) [] [] f fd) (M : Mk K C f) (hm : mg x = some (.ref C)) (S : FnScope N ps (defScope st))
    (hb : ∀ (kV doc pm : Value) (an : Option Addr) (cdv ct : Value) (us : List Value), us.length = ps.length → bindArgs (PySem.W.fnOf "__init__" qual (defArgs st) (defBody st) (defScope st) .none kV doc pm an cdv ct) ⟨us, []⟩ = pure (ps.zip us))
    (len : ∀ vs H Q E, sp vs H Q E → vs.length = ps.length) (h : Body0 P w K mg base N qual st f k sp) : Mak P w K mg base CX0 (k + 1) x C sp :=
  let ⟨fd, F⟩ := F
  ⟨f, fd, ps, M, fn_0 F S len h, hm, F.bindsN hb⟩
end
section
variable {X : Cx} {CX : CXT} {k j : Nat} {C : Addr} {x m : Str} {sp : Sp} {E : XK} {p pos apos : Pos} {e o : Expr} {es : List Expr} {ta : TE} {t : TA}
theorem pc (c : Cal X.prog X.w X.K X.mg X.base CX0 k x sp) (hr : Room j X.A) (ha : PA X (e :: es) t) (hk : k ≤ j := by omega) (hg : Gl X x := by rfl)
    (hpl : (backTo pos (starEach es X.env)).any (·.1) = false := by rfl) (he : starEach (e :: es) X.env = (false, eval e X.env) :: starEach es X.env := by rfl) (hdb : (x == ("__debug__" : Str)) = false := by decide) :
    PE X (.Call (.Name x p) (e :: es) [] pos) (tCall sp [] E0 t) := by
  obtain ⟨f, fd, ps, F, hm, kp, b⟩ := c
  exact pe_call F (hr.mono hk) hg hm kp b .nil pass0 ha hdb he hpl
theorem pc0 (c : Cal X.prog X.w X.K X.mg X.base CX0 k x sp) (hr : Room j X.A) (hk : k ≤ j := by omega) (hg : Gl X x := by rfl)
    (hdb : (x == ("__debug__" : Str)) = false := by decide) :
    PE X (.Call (.Name x p) [] [] pos) (tCall sp [] E0 tNil) := by
  obtain ⟨f, fd, ps, F, hm, kp, b⟩ := c
  exact pe_call0 F (hr.mono hk) hg hm kp b .nil pass0 hdb
theorem pmk (c : Mak X.prog X.w X.K X.mg X.base CX0 k x C sp) (hr : Room j X.A) (ha : PA X (e :: es) t) (hk : k + 1 ≤ j := by omega) (hg : Gl X x := by rfl)
    (hpl : (backTo pos (starEach es X.env)).any (·.1) = false := by rfl) (he : starEach (e :: es) X.env = (false, eval e X.env) :: starEach es X.env := by rfl) (hdb : (x == ("__debug__" : Str)) = false := by decide) :
    PE X (.Call (.Name x p) (e :: es) [] pos) (tMake C sp [] E0 t) := by
  obtain ⟨f, fd, ps, M, F, hm, b⟩ := c
  exact pe_make M F (hr.mono hk) hg hm b .nil pass0 ha hdb he hpl
theorem pmt {pl : Sem Bool} (c : Met X.prog X.w X.K X.mg X.base CX0 k C m sp) (hr : Room j X.A) (he : PE X o ta) (ha : PA X (e :: es) t) (hk : k ≤ j := by omega)
    (hst : starEach (e :: es) X.env = (false, eval e X.env) :: starEach es X.env := by rfl) (hpl : (backTo pos (starEach es X.env)).any (·.1) = false := by rfl)
    (ht : eval (.Call (.Attribute o m apos) (e :: es) [] pos) X.env = (do
      let ov ← eval o X.env
      standAt apos.atName
      let (f, first) ← holding [ov] (getMethod ov m pl)
      callWith pos f first (backTo pos (starEach (e :: es) X.env)) (backToKw pos (keywordEach [] X.env))) := by rfl) :
    PE X (.Call (.Attribute o m apos) (e :: es) [] pos) (tMeth C m sp [] E0 ta t) := by
  obtain ⟨f, fd, ps, hc, hm, F, b⟩ := c
  exact pe_meth (pl := pl) he hc hm F (hr.mono hk) b .nil pass0 ha hst hpl ht
theorem pmt0 {pl : Sem Bool} (c : Met X.prog X.w X.K X.mg X.base CX0 k C m sp) (hr : Room j X.A) (he : PE X o ta) (hk : k ≤ j := by omega)
    (ht : eval (.Call (.Attribute o m apos) [] [] pos) X.env = (do
      let ov ← eval o X.env
      standAt apos.atName
      let (f, first) ← holding [ov] (getMethod ov m pl)
      callWith pos f first (backTo pos (starEach [] X.env)) (backToKw pos (keywordEach [] X.env))) := by rfl) :
    PE X (.Call (.Attribute o m apos) [] [] pos) (tMeth C m sp [] E0 ta tNil) := by
  obtain ⟨f, fd, ps, hc, hm, F, b⟩ := c
  exact pe_meth0 (pl := pl) he hc hm F (hr.mono hk) b .nil pass0 ht
/-- a module's constant, told by what mg says -/
theorem pgl {v : V} {u : Value} (hm : X.mg x = some u) (r : RelV v u) (hg : Gl X x := by rfl) (hd : (x == ("__debug__" : Str)) = false := by decide) : PE X (.Name x p) (tC v) := pe_glob hg hm r hd
theorem pglR {a : Addr} (hm : X.mg x = some (.ref a)) (hg : Gl X x := by rfl) (hd : (x == ("__debug__" : Str)) = false := by decide) : PE X (.Name x p) (tC (.ref a)) := pe_glob hg hm rfl hd
theorem pglI {i : Int} (hm : ∃ t, X.mg x = some (.int i t)) (hg : Gl X x := by rfl) (hd : (x == ("__debug__" : Str)) = false := by decide) : PE X (.Name x p) (tC (.int i)) := let ⟨t, h⟩ := hm; pe_glob hg h ⟨t, rfl⟩ hd
theorem pglS {z : Str} (hm : ∃ t, X.mg x = some (.str z t)) (hg : Gl X x := by rfl) (hd : (x == ("__debug__" : Str)) = false := by decide) : PE X (.Name x p) (tC (.str z)) := let ⟨t, h⟩ := hm; pe_glob hg h ⟨t, rfl⟩ hd
/-- a built-in class as a value -/
theorem pty {n : String} (hm : X.mg x = none) (hv : bootBuiltins x = some (.type n)) (hg : Gl X x := by rfl) (hn : x ≠ "__name__" := by decide) (hd : (x == ("__debug__" : Str)) = false := by decide) : PE X (.Name x p) (tC (.ty n)) := pe_bltn hg hm hv rfl hn hd
/-- a built-in function, a built-in class, called -/
theorem pcb {id : String} {r : List V → Hp → VK → Prop} (hm : X.mg x = none) (hc : CallR X (.builtin id) r) (hv : bootBuiltins x = some (.builtin id)) (ha : PA X (e :: es) t) (hg : Gl X x := by rfl) (hn : x ≠ "__name__" := by decide) (hdb : (x == ("__debug__" : Str)) = false := by decide)
    (he : starEach (e :: es) X.env = (false, eval e X.env) :: starEach es X.env := by rfl) (hpl : (backTo pos (starEach es X.env)).any (·.1) = false := by rfl) : PE X (.Call (.Name x p) (e :: es) [] pos) (tCB r t) := pe_callB hc hg hm hv ha hn hdb he hpl
theorem pct {T : String} {r : List V → Hp → VK → Prop} (hm : X.mg x = none) (hc : CallR X (.type T) r) (hv : bootBuiltins x = some (.type T)) (ha : PA X (e :: es) t) (hg : Gl X x := by rfl) (hn : x ≠ "__name__" := by decide) (hdb : (x == ("__debug__" : Str)) = false := by decide)
    (he : starEach (e :: es) X.env = (false, eval e X.env) :: starEach es X.env := by rfl) (hpl : (backTo pos (starEach es X.env)).any (·.1) = false := by rfl) : PE X (.Call (.Name x p) (e :: es) [] pos) (tCB r t) := pe_callTy hc hg hm hv ha hn hdb he hpl
end
/-! ### the rules whose readings name the written part: K told apart (for a comprehension's block) -/
section
variable {X : Cx} {K : PySem.W.Frag} {e o : Expr} {es : List Expr} {ta : TE} {t : TA} {pos : Pos}
theorem pg_tup' {k : Nat} {t : TGs} {n : Nat} (hK : X.K = K) (hc : X.calm = true) (h : PGs X es t)
    (hn : (assignEach es X.env).length = n) (hst : (assignEach es X.env).findIdx? (·.1) = none) : PG X (.Tuple es k pos) (gTup K n t) := by
  subst hK
  exact pg_tup hc h hn hst
theorem ix_tup' (hK : X.K = K) : IxR X (rIxT K) := by subst hK; exact ix_tup
theorem ix_list' (hK : X.K = K) : IxR X (rIxL K) := by subst hK; exact ix_list
theorem call_isi' (hK : X.K = K) : CallR X (.builtin "isinstance") (rIsi K) := by subst hK; exact call_isi
theorem call_isiT' (hK : X.K = K) : CallR X (.builtin "isinstance") (rIsiT K) := by subst hK; exact call_isiT
theorem call_len_seq' (hK : X.K = K) : CallR X (.builtin "len") (fun xs H Q => ∃ p ys, xs = [.ref p] ∧ (SqL K H p ys ∨ SqT K H p ys) ∧ Q (.int ys.length) H) := by subst hK; exact call_len_seq
theorem ix_kdict' {w : World} (hK : X.K = K) (hw : X.w = w) : IxR X (rIxD K w) := by subst hK hw; exact ix_kdict
theorem pe_fld' {f : Str} (hK : X.K = K) (he : PE X e ta) (hb : attributeBase e f X.env (eval e X.env) = eval e X.env) : PE X (.Attribute e f pos) (tFld K ta f) := by subst hK; exact pe_fld he hb
end
/-! ### places -/
theorem at0 {v : V} {xs : List V} : atI (v :: xs) 0 = some v := atI_nat (j := 0) rfl
theorem at1 {a v : V} {xs : List V} : atI (a :: v :: xs) 1 = some v := atI_nat (j := 1) rfl
theorem at2 {a b v : V} {xs : List V} : atI (a :: b :: v :: xs) 2 = some v := atI_nat (j := 2) rfl
theorem at3 {a b c v : V} {xs : List V} : atI (a :: b :: c :: v :: xs) 3 = some v := atI_nat (j := 3) rfl
theorem at4 {a b c d v : V} {xs : List V} : atI (a :: b :: c :: d :: v :: xs) 4 = some v := atI_nat (j := 4) rfl
theorem yesI {σ : L2.St} {H : Hp} {X Y : Hp → Prop} (h : X H) : tYes σ H (fun b H3 => if b = true then X H3 else Y H3) := by
  show if true = true then X H else Y H
  rw [if_pos rfl]
  exact h
/-! ### ifs -/
theorem ifT {c : Bool} {A B : Prop} (hc : c = true) (h : A) : if c = true then A else B := by
  rw [if_pos hc]
  exact h
theorem ifF {c : Bool} {A B : Prop} (hc : c = false) (h : B) : if c = true then A else B := by
  rw [hc, if_neg Bool.false_ne_true]
  exact h
theorem qT {Q : VK} {c : Bool} {H : Hp} (h : c = true) (q : Q (.bl true) H) : Q (.bl c) H := by rw [h]; exact q
theorem qF {Q : VK} {c : Bool} {H : Hp} (h : c = false) (q : Q (.bl false) H) : Q (.bl c) H := by rw [h]; exact q
theorem ifB {c : Bool} {A B : Prop} (h1 : c = true → A) (h2 : c = false → B) : if c = true then A else B := by
  cases c with
  | true => exact ifT rfl (h1 rfl)
  | false => exact ifF rfl (h2 rfl)
/-! ### what a head tells beside the listed facts -/
/-- an own class whose instances isinstance reads -/
def insB (K : PySem.W.Frag) (x : Str) : Bool := He.eqO (PySem.W.findIn K (.ref (He.ga K x)) "__class__") (some (some (.builtin "object.__class__"))) &&
  (He.eqO (PySem.W.specialIn K (.builtin "object.__class__") "__get__") (some (some (.builtin "getset_descriptor.__get__"))) && (decide (PySem.W.takesIn K (.builtin "object.__class__") = some true) &&
    decide (PySem.W.mroIn K (He.ga K x) (.type "object") = some true)))
theorem insB_ty {K : PySem.W.Frag} {H : Hp} {x : Str} (h : insB K x = true) (cl : Cls K (He.ga K x)) {a dx : Addr} {fs : List (Str × V)} (e : H a = some (.ins (He.ga K x) dx fs)) : TyOf K H (.ref a) (.ref (He.ga K x)) := by
  obtain ⟨h1, h⟩ := He.ba h
  obtain ⟨h2, h⟩ := He.ba h
  obtain ⟨h3, h4⟩ := He.ba h
  exact .ins e cl (He.eqO_ok h1) (He.eqO_ok h2) (of_decide_eq_true h3) (of_decide_eq_true h4)
/-- isinstance between two own classes -/
def kitC (K : PySem.W.Frag) (x y : Str) (b : Bool) : Bool := decide (PySem.W.kitOne K (.ref (He.ga K x)) (.ref (He.ga K y)) = some b)
theorem kitC_ok {K : PySem.W.Frag} {x y : Str} {b : Bool} (h : kitC K x y b = true) : PySem.W.kitOne K (.ref (He.ga K x)) (.ref (He.ga K y)) = some b := of_decide_eq_true h
/-- a special method of an own class is its def -/
def spcB (K : PySem.W.Frag) (x m : Str) : Bool := He.eqO (PySem.W.findIn K (.ref (He.ga K x)) m) (some (some (.ref (He.ma K (He.ga K x) m)))) && PySem.W.isFn K (.ref (He.ma K (He.ga K x) m))
theorem spcB_ok {K : PySem.W.Frag} {x m : Str} (h : spcB K x m = true) : PySem.W.findIn K (.ref (He.ga K x)) m = some (some (.ref (He.ma K (He.ga K x) m))) ∧ PySem.W.isFn K (.ref (He.ma K (He.ga K x) m)) = true :=
  let ⟨a, b⟩ := He.ba h; ⟨He.eqO_ok a, b⟩
/-! ### isinstance -/
theorem isi_ty {K : PySem.W.Frag} {H : Hp} {Q : VK} {x : V} {t n : String} {b : Bool} (ty : TyX K H x (.type t)) (q : Q (.bl b) H) (e : kitB t n = some b := by decide +kernel) : rIsi K [x, .ty n] H Q :=
  ⟨x, .ty n, .type t, .type n, b, rfl, .ty n, ty, kit_ty e, q⟩
/-! ### a statement told by what holds behind it -/
def tMid (t : TS) : TS := fun D σ H => ∃ M : L2.St → Hp → Prop, t { D with nx := M } σ H ∧ ∀ σ' H', M σ' H' → D.nx σ' H'
theorem ps_mid {X : Cx} {st : Stmt} {t : TS} (h : PS X st t) : PS X st (tMid t) := by
  constructor
  rintro pins s σ H D I ⟨M, a, b⟩
  refine wpAny_mono (h.run pins s σ H _ I a) (fun f s' z => ?_) fun _ _ z => z
  cases f with
  | next =>
    obtain ⟨σ', H', I', m⟩ := z
    exact ⟨σ', H', I', b σ' H' m⟩
  | ret v => exact z
  | brk => exact z
  | cont => exact z
end RM

set_option Elab.async false
set_option linter.all false
/-! sequences of either kind: for x in v -/
namespace RM
open PySem PySem.Spec
open PyProof.Rows
open L2
/-- what is laid behind the last address is no one's -/
theorem late {X : Cx} {pins : List (Addr × Obj)} {σ : L2.St} {H : Hp} {s : Shared} (inv : Inv X pins σ H s) : ∀ b ∈ [s.heap.objs.size], FpOk X pins H b := by
  intro b hb
  obtain rfl := List.mem_singleton.mp hb
  exact inv.fpOk (Nat.le_refl _) (inv.hok.fresh (Nat.le_refl _))
@[irreducible] def SeqG (K : PySem.W.Frag) (x : V) (H1 : Hp) (R : It → Hp → Prop) : Prop :=
  ∃ a, x = .ref a ∧ ((∃ xs, SqL K H1 a xs ∧ R (Itl K a) H1) ∨ (∃ xs, SqT K H1 a xs ∧ R (Itt K a) H1))
def iSeqA (K : PySem.W.Frag) (tl : TE) : TI := fun σ H R => tl σ H fun x H1 => SeqG K x H1 R
theorem pi_seqA {X : Cx} {tg l : Expr} {tl : TE} (hl : PE X l tl) : PI X tg l (iSeqA X.K tl) := by
  constructor
  intro pins s σ H R inv pre
  refine thn (hl.run pins s σ H _ inv pre) ?_
  rintro v s1 ⟨x, H1, inv1, rel, post⟩
  rw [show SeqG X.K x H1 R = (∃ a, x = .ref a ∧ ((∃ xs, SqL X.K H1 a xs ∧ R (Itl X.K a) H1) ∨ (∃ xs, SqT X.K H1 a xs ∧ R (Itt X.K a) H1))) by unfold SeqG; rfl] at post
  obtain ⟨a, rfl, ⟨xs, sq, r⟩ | ⟨xs, sq, r⟩⟩ := post
  · obtain rfl : v = .ref a := rel
    obtain ⟨its, _, at_, _⟩ := inv1.list sq
    exact wpAny_pyIter_list at_.isList ⟨_, _, _, _, _, rfl, inv1.kept (t' := s1.toks) fun _ _ e => Heap.get?_push_of_some _ e, turn_list a _, ⟨_, Heap.get?_push_size _ rfl, rfl, rfl⟩, late inv1, r⟩
  · obtain rfl : v = .ref a := rel
    obtain ⟨its, _, at_, _⟩ := inv1.tuple sq
    exact wpAny_pyIter_tuple (items := its.toArray) at_ ⟨_, _, _, _, _, rfl, inv1.kept (t' := s1.toks) fun _ _ e => Heap.get?_push_of_some _ e, turn_tuple a _, ⟨_, Heap.get?_push_size _ rfl, rfl, rfl⟩, late inv1, r⟩
end RM

set_option Elab.async false
set_option linter.all false
set_option maxRecDepth 100000
/-! enumerate(a tuple): how it is made -/
namespace RM
open PySem PySem.Spec
open PyProof.Rows
open L2
abbrev tupIt (a : Addr) : Obj := { cls := .type "tuple_iterator", data := .fields #[.ref a, .int 0 0] }
abbrev enOb (e : Addr) : Obj := { cls := .type "enumerate", data := .fields #[.none, .bool false, .ref e, rawInt 0, .none, .none] }
theorem made_enum (a : Addr) (its : Array Value) : Meets (Builtin.«enumerate.__new__» ⟨[.type "enumerate", .ref a], []⟩)
    fun _ R s => s.heap.IsTuple a its ∧ R (.ok (.ret (.ref (s.heap.push (tupIt a)).objs.size))) { s with heap := (s.heap.push (tupIt a)).push (enOb s.heap.objs.size) } := by
  refine .of_wp ?_
  rintro prog w A R ⟨hp, g, d, tk, os⟩ ⟨tup, fin⟩
  have sub := sub_enumerate
  have go : ∀ {B : Around} {EE QQ : Value → Shared → Prop}, QQ (.ref hp.objs.size) ⟨hp.push (tupIt a), g, d, tk, os⟩ → wpAny (model prog w) B (pyIter (.ref a)) QQ EE ⟨hp, g, d, tk, os⟩ :=
    wpAny_pyIter_tuple (s := ⟨hp, g, d, tk, os⟩) tup
  wp_walk using go
  refine wpAny_stack_any fun frames => ?_
  apply wpAny_pure
  split
  case h_1 c _ _ _ _ _ =>
    by_cases e : (c == Value.type "enumerate") = true
    all_goals (simp only [e]; wp_walk using go; exact ⟨_, rfl, fin⟩)
  case h_2 => wp_walk using go; exact ⟨_, rfl, fin⟩
section
variable {P : Program} {w : World} {s : Shared} {A : Around} {E : Value → Shared → Prop}
/-- enumerate(t): the enumerate object stands one behind the tuple's iterator -/
theorem call_enumT {a : Addr} {its : Array Value} {Q : Value → Shared → Prop} (tup : s.heap.IsTuple a its)
    (then_ : ∀ hp : Heap, IsEnum hp (s.heap.objs.size + 1) s.heap.objs.size ((0 : Nat) : Int) .none → hp.get? s.heap.objs.size = some (tupIt a) → (∀ c u, s.heap.get? c = some u → hp.get? c = some u) → Q (.ref (s.heap.objs.size + 1)) { s with heap := hp }) :
    wpAny (model P w) A (call (.type "enumerate") [.ref a]) Q E s := by
  have sz : (s.heap.push (tupIt a)).objs.size = s.heap.objs.size + 1 := Heap.size_push _ _
  have at1 : ((s.heap.push (tupIt a)).push (enOb s.heap.objs.size)).get? (s.heap.objs.size + 1) = some (enOb s.heap.objs.size) := sz ▸ Heap.get?_push_size (s.heap.push (tupIt a)) (o := enOb s.heap.objs.size) rfl
  apply callType_new F.called_enumerate (by decide) (F.typeCall_enumerate_1 (.ref a)) (F.newCall_enumerate_1 (.ref a)) (fun o => F.args_object_init_2 o (.ref a)) F.entry_enumerate_new (made_enum a its)
  refine ⟨tup, ?_⟩
  show Shared.TypeIs _ _ _ ∧ Q _ _
  rw [sz]
  exact ⟨⟨_, at1, rfl⟩, then_ _ at1 (Heap.get?_push_of_some _ (Heap.get?_push_size _ rfl)) fun c u old => Heap.get?_push_of_some _ (Heap.get?_push_of_some _ old)⟩
end
theorem turn_pair {P : Program} {w : World} {K : PySem.W.Frag} {elts : List Expr} {kk : Nat} {tpos : Pos} {J : It} {fp : List Addr} {it : Addr} {tn : Nat → Heap → Prop}
    (mem : it ∈ fp) (obj : ∀ i h, tn i h → ∀ b ∈ fp, ∃ o, h.get? b = some o ∧ ∀ v, o.data ≠ .cell v)
    (keep : ∀ i h h', tn i h → (∀ b ∈ fp, ∀ o, h.get? b = some o → h'.get? b = some o) → tn i h')
    (self : ∀ (A : Around) (i : Nat) (s : Shared) (Q : Value → Shared → Prop) (E : Value → Shared → Prop), tn i s.heap → Q (.ref it) s → wpAny (model P w) A (pyIter (.ref it)) Q E s)
    (go : ∀ (X : Cx), X.prog = P → X.w = w → X.K = K → ∀ (i : Nat) (pins : List (Addr × Obj)) (s : Shared) (σ : L2.St) (H : Hp), Inv X pins σ H s → X.A.handled = none → tn i s.heap → J.go i H →
      ∃ (fp' wr : List Addr) (n : Nat) (Y : Nat → Heap → Value → Heap → Prop) (St : Nat → Heap → Prop), GoesN P w X.A (.Tuple elts kk tpos) it fp' wr n Y St ∧ i < n ∧ St i s.heap ∧ (∀ b ∈ wr, b ∈ fp) ∧
        ∀ v h', Y i s.heap v h' → St (i + 1) h' → ∃ T u1 u2 x y, v = .ref T ∧ s.heap.objs.size ≤ T ∧ h'.IsTuple T #[u1, u2] ∧ RelV x u1 ∧ RelV y u2 ∧ tn (i + 1) h' ∧ J.yld i H (.ref T) (upd H T (.tup [x, y])))
    (stop : ∀ (X : Cx), X.prog = P → X.w = w → X.K = K → ∀ (i : Nat) (pins : List (Addr × Obj)) (s : Shared) (σ : L2.St) (H : Hp), Inv X pins σ H s → X.A.handled = none → tn i s.heap → J.stop i H →
      ∃ (fp' wr : List Addr) (Y : Nat → Heap → Value → Heap → Prop) (St : Nat → Heap → Prop), GoesN P w X.A (.Tuple elts kk tpos) it fp' wr i Y St ∧ St i s.heap ∧ (∀ b ∈ wr, b ∈ fp)) :
    Turn P w K (.Tuple elts kk tpos) J fp it tn where
  mem := mem
  obj := obj
  keep := keep
  item := by
    rintro X hP hw hK hc i pins s σ H E I hf st hg
    obtain ⟨fp', wr, n, Y, St, W, hi, hs, hwr, hy⟩ := go X hP hw hK i pins s σ H I (I.ok.hd hc) st hg
    refine wpAny_mono (W.goes i s (fun v s2 => ∃ x H', Inv X pins σ H' s2 ∧ RelV x v ∧ J.yld i H x H' ∧ tn (i + 1) s2.heap ∧ ∀ b ∈ fp, H' b = none) E hi hs fun v h' tk y st' hk htk => ?_) (fun r s1 q => q) fun _ _ q => q
    obtain ⟨T, u1, u2, x, y', rfl, hT, ht, r1, r2, t', yl⟩ := hy v h' y st'
    have hd : s.heap.objs.size ≤ T := hT
    have new : ObjOk X.prog X.w (upd H T (.tup [x, y'])) h' T (.tup [x, y']) := ⟨by show 2 ≤ sizeLine; decide, [u1, u2], .cons r1 (.cons r2 .nil), ht⟩
    have I1 : Inv X pins σ (upd H T (.tup [x, y'])) { s with heap := h', toks := tk } := I.turnedNew (ch := fp) (fun c o hb q => hk c o (fun z => hb (hwr c z)) q) hf hT new
    refine ⟨.ref T, _, I1, rfl, yl, t', fun b hb => ?_⟩
    obtain ⟨o, ho, _⟩ := obj i _ st b hb
    rw [upd_ne (Nat.ne_of_lt (Nat.lt_of_lt_of_le (Heap.lt_size ho) hT))]
    exact (hf b hb).1
  done := by
    rintro X hP hw hK hc i pins s σ H E I hf st hg
    obtain ⟨fp', wr, Y, St, W, hs, hwr⟩ := stop X hP hw hK i pins s σ H I (I.ok.hd hc) st hg
    exact W.stops s (fun s1 => Inv X pins σ H s1) E hs fun h' tk hk htk => I.turnedL (ch := fp) (fun c o hb q => hk c o (fun z => hb (hwr c z)) q) hf
  self := self

/-! ### for i, x in enumerate(a tuple) -/
/-- the tuple at a, its items in new pairs behind their numbers -/
def IteT (K : PySem.W.Frag) (a : Addr) : It :=
  ⟨fun i H => ∃ (xs : List V) (x : V), SqT K H a xs ∧ xs[i]? = some x,
    fun i H v H' => ∃ T x, v = .ref T ∧ H T = none ∧ H' = upd H T (.tup [.int (i : Nat), x]) ∧ ∀ xs, SqT K H a xs → xs[i]? = some x,
    fun i H => ∃ xs : List V, SqT K H a xs ∧ xs.length = i⟩
theorem turn_enumT {P : Program} {w : World} {K : PySem.W.Frag} {elts : List Expr} {kk : Nat} {tpos : Pos} {a e it : Addr} (hei : e ≠ it) (hae : a ≠ e) (hai : a ≠ it) :
    Turn P w K (.Tuple elts kk tpos) (IteT K a) [e, it] e (fun i h => (∃ old, IsEnum h e it ((i : Nat) : Int) old) ∧ h.IsTupleIter it a i) := by
  refine turn_pair (by simp) (fun i h st b hb => ?_) (fun i h h' st k => ?_) (fun A i s Q E st h => let ⟨⟨_, he⟩, _⟩ := st; wpAny_pyIter_enum he h) ?_ ?_
  · obtain ⟨⟨old, he⟩, ⟨o2, e2, _, d2⟩⟩ := st
    rcases List.mem_cons.mp hb with rfl | rest
    · exact ⟨_, he, fun v => nofun⟩
    · obtain rfl : b = it := by simpa using rest
      exact ⟨o2, e2, fun v no => by simp [d2] at no⟩
  · obtain ⟨⟨old, he⟩, h2⟩ := st
    exact ⟨⟨old, k e (by simp) _ he⟩, h2.at fun o q => k it (by simp) o q⟩
  · rintro X rfl rfl rfl i pins s σ H I hh ⟨he, hit⟩ ⟨xs, x, hq, hx⟩
    obtain ⟨its, rv, p, _⟩ := I.tuple hq
    obtain ⟨u, hu, ru⟩ := Vals.get (xs := xs) rv hx
    have pt : s.heap.IsTuple a its.toArray := p
    have W := GoesN.enumFrom (prog := X.prog) (w := X.w) (A := X.A) (elts := elts) (x1 := kk) (pos := tpos) 0 (Draws.tuple (prog := X.prog) (w := X.w) (A := X.A.in1) hh it a hai its.toArray) e hei (by simp [hei, Ne.symm hae]) (by simp)
    refine ⟨_, _, _, _, _, W, ?_, ⟨?_, hit, pt⟩, by simp, ?_⟩
    · have : i < its.length := (List.getElem?_eq_some_iff.mp hu).1
      simpa using this
    · obtain ⟨old, he⟩ := he
      exact ⟨old, by simpa using he⟩
    · rintro v h' ⟨T, t, x', rfl, hT, hx', ht⟩ ⟨⟨old, he'⟩, hit', _⟩
      have hx2 : its[i]? = some x' := by simpa using hx'
      rw [hu] at hx2
      cases hx2
      refine ⟨T, _, _, .int (i : Nat), x, rfl, hT, ht, ⟨t, by simp⟩, ru, ⟨⟨old, by simpa using he'⟩, hit'⟩, T, x, rfl, I.hok.fresh hT, rfl, fun l hl => ?_⟩
      rw [I.tuple_inj hl hq]
      exact hx
  · rintro X rfl rfl rfl i pins s σ H I hh ⟨he, hit⟩ ⟨xs, hq, hx⟩
    obtain ⟨its, rv, p, _⟩ := I.tuple hq
    have pt : s.heap.IsTuple a its.toArray := p
    have W := GoesN.enumFrom (prog := X.prog) (w := X.w) (A := X.A) (elts := elts) (x1 := kk) (pos := tpos) 0 (Draws.tuple (prog := X.prog) (w := X.w) (A := X.A.in1) hh it a hai its.toArray) e hei (by simp [hei, Ne.symm hae]) (by simp)
    have hl : its.toArray.size = i := by
      have q := rv.length
      simp only [List.size_toArray]
      omega
    rw [hl] at W
    refine ⟨_, _, _, _, W, ⟨?_, hit, pt⟩, by simp⟩
    obtain ⟨old, he⟩ := he
    exact ⟨old, by simpa using he⟩
theorem walk_enumT {K : PySem.W.Frag} {a : Addr} {xs : List V} : Walk (IteT K a) xs.length (fun H => SqT K H a xs) (YPair (fun i => some (.int (i : Nat))) (fun i => xs[i]?)) where
  goes := fun i H hi h => ⟨xs, xs[i], h, by simp [hi]⟩
  stops := fun H h => ⟨xs, h, rfl⟩
  yields := fun i H x H' hi h ⟨T, y, e1, e2, e3, e4⟩ => ⟨T, _, y, e1, e2, e3, rfl, e4 xs h⟩
/-- enumerate(v): v a list or a tuple -/
@[irreducible] def EnumG (K : PySem.W.Frag) (vs : List V) (H1 : Hp) (R : It → Hp → Prop) : Prop :=
  ∃ a, vs = [.ref a] ∧ ((∃ xs, SqL K H1 a xs ∧ R (Ite K a) H1) ∨ (∃ xs, SqT K H1 a xs ∧ R (IteT K a) H1))
def iEnumA (K : PySem.W.Frag) (ta : TA) : TI := fun σ H R => ta σ H fun vs H1 => EnumG K vs H1 R
theorem late2 {X : Cx} {pins : List (Addr × Obj)} {σ : L2.St} {H : Hp} {s : Shared} (inv : Inv X pins σ H s) : ∀ b ∈ [s.heap.objs.size + 1, s.heap.objs.size], FpOk X pins H b := by
  intro b hb
  have above : s.heap.objs.size ≤ b := by
    have : b = s.heap.objs.size + 1 ∨ b = s.heap.objs.size := by simpa using hb
    omega
  exact inv.fpOk above (inv.hok.fresh above)
theorem pi_enumA {X : Cx} {e : Expr} {ta : TA} {p pos tpos : Pos} {elts : List Expr} {kk : Nat} (hg : Gl X "enumerate") (hm : X.mg "enumerate" = none) (ha : PA X [e] ta) (hs : starEach [e] X.env = [(false, eval e X.env)] := by rfl) :
    PI X (.Tuple elts kk tpos) (.Call (.Name "enumerate" p) [e] [] pos) (iEnumA X.K ta) := by
  constructor
  intro pins s σ H R inv pre
  refine Call_ (ld_blt inv hg hm boot_enumerate (PyProof.Rows.callWith_type1 (thn (ha.run pos pins s σ H _ inv pre) ?_) hs rfl))
  rintro us s1 ⟨vs, H1, inv1, rel, post⟩
  rw [show EnumG X.K vs H1 R = (∃ a, vs = [.ref a] ∧ ((∃ xs, SqL X.K H1 a xs ∧ R (Ite X.K a) H1) ∨ (∃ xs, SqT X.K H1 a xs ∧ R (IteT X.K a) H1))) by unfold EnumG; rfl] at post
  obtain ⟨a, rfl, ⟨xs, sq, r⟩ | ⟨xs, sq, r⟩⟩ := post
  · obtain rfl := Vals.ref1 rel
    obtain ⟨its, _, at_, _⟩ := inv1.list sq
    exact call_enumerate_list at_.isList fun hp en li _ old => wpAny_pyIter_enum en ⟨_, _, _, _, H1, rfl, inv1.kept (t' := s1.toks) old, turn_enum a (s1.heap.objs.size + 1) s1.heap.objs.size, ⟨⟨.none, en⟩, li, Nat.succ_ne_self _⟩, late2 inv1, r⟩
  · obtain rfl := Vals.ref1 rel
    obtain ⟨its, _, at_, _⟩ := inv1.tuple sq
    have low : a < s1.heap.objs.size := at_.lt
    exact call_enumT (its := its.toArray) at_ fun hp en it_ old => wpAny_pyIter_enum en ⟨_, _, _, _, H1, rfl, inv1.kept (t' := s1.toks) old, turn_enumT (Nat.succ_ne_self _) (Nat.ne_of_lt (Nat.lt_succ_of_lt low)) (Nat.ne_of_lt low), ⟨⟨.none, en⟩, ⟨_, it_, rfl, rfl⟩⟩, late2 inv1, r⟩
end RM

set_option Elab.async false
set_option linter.all false
set_option maxRecDepth 100000
/-! zip(a tuple, a text) -/
namespace RM
open PySem PySem.Spec
open PyProof.Rows
open L2
def ItzTS (K : PySem.W.Frag) (a : Addr) (z : Str) : It :=
  ⟨fun i H => ∃ (xs : List V) (x : V) (c : Nat), SqT K H a xs ∧ xs[i]? = some x ∧ z.cps[i]? = some c,
    fun i H v H' => ∃ T x c, v = .ref T ∧ H T = none ∧ H' = upd H T (.tup [x, .str ⟨#[c]⟩]) ∧ (∀ xs, SqT K H a xs → xs[i]? = some x) ∧ z.cps[i]? = some c,
    fun i H => ∃ xs : List V, SqT K H a xs ∧ min xs.length z.cps.size = i⟩
theorem turn_zipTS {P : Program} {w : World} {K : PySem.W.Frag} {elts : List Expr} {kk : Nat} {tpos : Pos} {a z TI TO i1 i2 : Addr} {x : Str} {tx : Tok} (S : ZipSep2 z TI TO i1 i2 [i1, a] [i2]) (hai : a ≠ i1) :
    Turn P w K (.Tuple elts kk tpos) (ItzTS K a x) [z, TI, TO, i1, i2] z (fun i h => IsZip h z TI TO .none ∧ IsTupOf2 h TI (.ref i1) (.ref i2) ∧ (∃ a1 a2, IsTupOf2 h TO a1 a2) ∧ h.IsTupleIter i1 a i ∧ h.IsStrIter i2 (strIterType x) x tx i) := by
  refine turn_pair (by simp) (fun i h st b hb => ?_) (fun i h h' st k => ?_) (fun A i s Q E st h => wpAny_pyIter_zip st.1 h) ?_ ?_
  · obtain ⟨zi, ti, ⟨_, _, to_⟩, ⟨o1, e1, _, d1⟩, ⟨o2, e2, _, d2⟩⟩ := st
    simp only [List.mem_cons, List.not_mem_nil, or_false] at hb ⊢
    have fl : ∀ {o : Obj} {vs : Array Value}, o.data = .fields vs → ∀ v, o.data ≠ .cell v := fun d v no => by simp [d] at no
    obtain rfl | rfl | rfl | rfl | rfl := hb
    · exact ⟨_, zi, fun v => nofun⟩
    · exact ⟨_, ti, fun v => nofun⟩
    · exact ⟨_, to_, fun v => nofun⟩
    · exact ⟨o1, e1, fl d1⟩
    · exact ⟨o2, e2, fl d2⟩
  · obtain ⟨hz, hTI, ⟨a1, a2, hTO⟩, h1, h2⟩ := st
    exact ⟨k z (by simp) _ hz, k TI (by simp) _ hTI, ⟨a1, a2, k TO (by simp) _ hTO⟩, h1.at fun o q => k i1 (by simp) o q, let ⟨o, ho, r⟩ := h2; ⟨o, k i2 (by simp) o ho, r⟩⟩
  · rintro X rfl rfl rfl i pins s σ H I hh ⟨hz, hTI, hTO, h1, h2⟩ ⟨xs, y, c, hq, hx, hc⟩
    obtain ⟨its, rv, p, _⟩ := I.tuple hq
    obtain ⟨u, hu, ru⟩ := Vals.get (xs := xs) rv hx
    have pt : s.heap.IsTuple a its.toArray := p
    have W := GoesN.zip2 (prog := X.prog) (w := X.w) (A := X.A) (elts := elts) (x1 := kk) (pos := tpos) S (Draws.tuple (prog := X.prog) (w := X.w) (A := X.A.in1) hh i1 a hai its.toArray) (Draws.text (prog := X.prog) (w := X.w) (A := X.A.in1) hh i2 x tx)
    refine ⟨_, _, _, _, _, W, ?_, ⟨hz, hTI, hTO, ⟨h1, pt⟩, h2⟩, by simp, ?_⟩
    · have l1 : i < its.length := (List.getElem?_eq_some_iff.mp hu).1
      have l2 : i < x.cps.size := (Array.getElem?_eq_some_iff.mp hc).1
      simp only [List.size_toArray]
      omega
    · rintro v h' ⟨T, x', y', rfl, hT, hx', ⟨c', t', hc', rfl⟩, ht⟩ ⟨hz', hTI', hTO', ⟨h1', _⟩, h2'⟩
      have hx2 : its[i]? = some x' := by simpa using hx'
      rw [hu] at hx2
      cases hx2
      rw [hc] at hc'
      cases hc'
      refine ⟨T, _, _, y, .str ⟨#[c]⟩, rfl, hT, ht, ru, ⟨t', rfl⟩, ⟨hz', hTI', hTO', h1', h2'⟩, T, y, c, rfl, I.hok.fresh hT, rfl, fun l hl => ?_, hc⟩
      rw [I.tuple_inj hl hq]
      exact hx
  · rintro X rfl rfl rfl i pins s σ H I hh ⟨hz, hTI, hTO, h1, h2⟩ ⟨xs, hq, hl⟩
    obtain ⟨its, rv, p, _⟩ := I.tuple hq
    have pt : s.heap.IsTuple a its.toArray := p
    have W := GoesN.zip2 (prog := X.prog) (w := X.w) (A := X.A) (elts := elts) (x1 := kk) (pos := tpos) S (Draws.tuple (prog := X.prog) (w := X.w) (A := X.A.in1) hh i1 a hai its.toArray) (Draws.text (prog := X.prog) (w := X.w) (A := X.A.in1) hh i2 x tx)
    have hl2 : min its.toArray.size x.cps.size = i := by
      have q := rv.length
      simp only [List.size_toArray]
      omega
    rw [hl2] at W
    exact ⟨_, _, _, _, W, ⟨hz, hTI, hTO, ⟨h1, pt⟩, h2⟩, by simp⟩
def iZipTS (K : PySem.W.Frag) (ta : TA) : TI := fun σ H R => ta σ H fun vs H1 => ∃ a xs z, vs = [.ref a, .str z] ∧ SqT K H1 a xs ∧ R (ItzTS K a z) H1
theorem late5 {X : Cx} {pins : List (Addr × Obj)} {σ : L2.St} {H : Hp} {s : Shared} (inv : Inv X pins σ H s) :
    ∀ b ∈ [s.heap.objs.size + 4, s.heap.objs.size + 2, s.heap.objs.size + 3, s.heap.objs.size, s.heap.objs.size + 1], FpOk X pins H b := by
  intro b hb
  have above : s.heap.objs.size ≤ b := by
    have : b = s.heap.objs.size + 4 ∨ b = s.heap.objs.size + 2 ∨ b = s.heap.objs.size + 3 ∨ b = s.heap.objs.size ∨ b = s.heap.objs.size + 1 := by
      simpa using hb
    omega
  exact inv.fpOk above (inv.hok.fresh above)
theorem pi_zipTS {X : Cx} {e e2 : Expr} {ta : TA} {p pos tpos : Pos} {elts : List Expr} {kk : Nat} (hg : Gl X "zip") (hm : X.mg "zip" = none) (ha : PA X [e, e2] ta)
    (two : starEach [e, e2] X.env = (false, eval e X.env) :: starEach [e2] X.env := by rfl)
    (plain : (backTo pos (starEach [e2] X.env)).any (·.1) = false := by rfl) : PI X (.Tuple elts kk tpos) (.Call (.Name "zip" p) [e, e2] [] pos) (iZipTS X.K ta) := by
  constructor
  intro pins s σ H R inv pre
  refine Call_ (ld_blt inv hg hm PyProof.Rows.boot_zip (PyProof.Rows.callWith_type1 (thn (ha.run pos pins s σ H _ inv pre) ?_) two plain))
  rintro us s1 ⟨_, H1, inv1, rel, a, xs, z, rfl, sq, r⟩
  obtain ⟨_, u, rfl, rfl, ⟨tx, rfl⟩⟩ := vals2 rel
  obtain ⟨its, _, at_, _⟩ := inv1.tuple sq
  have low : a < s1.heap.objs.size := at_.lt
  have sep := zip_sep2 (N := s1.heap.objs.size) (fp1 := [a]) (fp2 := []) (fun b hb => (List.mem_singleton.mp hb).symm ▸ low) nofun
  exact zip_begins2 (begins_tuple a its.toArray) (begins_text z tx) at_ trivial fun hp zi ti to_ i1 i2 _ old =>
    wpAny_pyIter_zip zi ⟨_, _, _, _, H1, rfl, inv1.kept (t' := s1.toks) old, turn_zipTS sep (Nat.ne_of_lt low), ⟨zi, ti, ⟨_, _, to_⟩, ⟨_, i1, rfl, rfl⟩, ⟨_, i2, rfl, rfl⟩⟩, late5 inv1, r⟩
theorem walk_zipTS {K : PySem.W.Frag} {a : Addr} {xs : List V} {z : Str} (hl : xs.length = z.cps.size) : Walk (ItzTS K a z) xs.length (fun H => SqT K H a xs) (YPair (fun i => xs[i]?) (fun i => (z.cps[i]?).map fun c => .str ⟨#[c]⟩)) where
  goes := fun i H hi h => ⟨xs, xs[i], z.cps[i]'(by omega), h, by simp [hi], by simp⟩
  stops := fun H h => ⟨xs, h, by omega⟩
  yields := fun i H x H' hi h ⟨T, y, c, e1, e2, e3, e4, e5⟩ => ⟨T, y, _, e1, e2, e3, e4 xs h, by show Option.map _ z.cps[i]? = _; rw [e5]; rfl⟩
end RM

set_option Elab.async false
set_option linter.all false
set_option maxRecDepth 100000
set_option maxHeartbeats 2000000
/-! heaps that keep; sequences of either kind -/
namespace RM
open PySem PySem.Spec
open PyProof.Rows
open L2
/-- a clause's turns: at the end `fin`; else one more, behind whose tests `wk` is done -/
def Turns (J : It) (g : TG) (tt : TT) (wk : L2.St → Hp → (Hp → Prop) → Prop) (σ0 : L2.St) (vs : List Nat) (W : Nat → Nat → Hp → Prop) (fin : Hp → Prop) : Prop :=
  ∀ i m H, W i m H → (J.stop i H ∧ fin H) ∨ (J.go i H ∧ ∃ N : Hp → Prop, (∀ H', N H' → ∃ m', m' < m ∧ W (i + 1) m' H') ∧
    ∀ x H', J.yld i H x H' → g x σ0 H' fun σ2 H2 => wipe σ2 vs = σ0 ∧ tt σ2 H2 fun b H3 => if b = true then wk σ2 H3 N else N H3)
theorem smT {K : PySem.W.Frag} {H H' : Hp} {a : Addr} {xs : List V} (e : Same H H') (h : SqT K H a xs) : SqT K H' a xs := by
  exact h.imp (Or.imp (e _ _) fun ⟨o, at_⟩ => ⟨o, e _ _ at_⟩) id
theorem smNew {H H1 : Hp} (e : Same H H1) {p : Addr} (h : H1 p = none) (o : HO) : Same H (upd H1 p o) := fun b u q => by rw [upd_ne (ne_of_none (e b u q) h)]; exact e b u q
theorem smNew1 {H : Hp} {p : Addr} (h : H p = none) (o : HO) : Same H (upd H p o) := smNew (Same.refl H) h o
/-- p is none of H's -/
theorem smOut {H H1 : Hp} (e : Same H H1) {p : Addr} (h : H p = none) (o : HO) : Same H (upd H1 p o) := fun b u q => by rw [upd_ne (ne_of_none q h)]; exact e b u q
/-- the tuples stay -/
def TS (K : PySem.W.Frag) (H H' : Hp) : Prop := ∀ a xs, SqT K H a xs → SqT K H' a xs
theorem TS.refl (K : PySem.W.Frag) (H : Hp) : TS K H H := fun _ _ h => h
theorem TS.trans {K : PySem.W.Frag} {H H1 H2 : Hp} (a : TS K H H1) (b : TS K H1 H2) : TS K H H2 := fun p xs h => b p xs (a p xs h)
theorem ts_sm {K : PySem.W.Frag} {H H' : Hp} (e : Same H H') : TS K H H' := fun _ _ h => smT e h
/-- what no tuple is may change -/
def NoTup : HO → Prop
  | .tup _ => False
  | .frz _ _ => False
  | _ => True
theorem ts_upd {K : PySem.W.Frag} {H : Hp} {p : Addr} {u : HO} (o : HO) (h : H p = some u) (n : NoTup u) : TS K H (upd H p o) := fun a xs q => by
  rcases q with (q | ⟨ob, q⟩) | q
  · exact .inl (.inl (by rw [upd_ne (fun z => by rw [z, h] at q; cases q; exact n)]; exact q))
  · exact .inl (.inr ⟨ob, by rw [upd_ne (fun z => by rw [z, h] at q; cases q; exact n)]; exact q⟩)
  · exact .inr q
/-! ### walks of pairs: what the library's Goes.. give, as a Turn -/
/-- a sequence to be read: a list or a tuple -/
def SqA (K : PySem.W.Frag) (H : Hp) (a : Addr) (xs : List V) : Prop := SqL K H a xs ∨ SqT K H a xs
theorem sqA_sm {K : PySem.W.Frag} {H H' : Hp} {a : Addr} {xs : List V} (e : Same H H') (h : SqA K H a xs) : SqA K H' a xs := by
  rcases h with h | h
  · exact .inl (e.seq h)
  · exact .inr (smT e h)
theorem seqA_of {K : PySem.W.Frag} {H0 H : Hp} {a : Addr} {xs : List V} {R : It → Hp → Prop} (h : SqA K H0 a xs) (e : Same H0 H) (q : ∀ J, Walk J xs.length (fun H' => Same H0 H') (YAt xs) → R J H) :
    SeqG K (.ref a) H R := by
  unfold SeqG
  rcases h with h | h
  · exact ⟨a, rfl, .inl ⟨xs, e.seq h, q _ (walk_list.mono (fun H' e => e.seq h) fun i H x H' _ _ y => y)⟩⟩
  · exact ⟨a, rfl, .inr ⟨xs, smT e h, q _ (walk_tup.mono (fun H' e => smT e h) fun i H x H' _ _ y => y)⟩⟩
theorem enumA_of {K : PySem.W.Frag} {H0 H : Hp} {a : Addr} {xs : List V} {R : It → Hp → Prop} (h : SqA K H0 a xs) (e : Same H0 H) (q : ∀ J, Walk J xs.length (fun H' => Same H0 H') (YPair (fun i => some (.int (i : Nat))) (fun i => xs[i]?)) → R J H) :
    EnumG K [.ref a] H R := by
  unfold EnumG
  rcases h with h | h
  · exact ⟨a, rfl, .inl ⟨xs, e.seq h, q _ (walk_enum.mono (fun H' e => e.seq h) fun i H x H' _ _ y => y)⟩⟩
  · exact ⟨a, rfl, .inr ⟨xs, smT e h, q _ (walk_enumT.mono (fun H' e => smT e h) fun i H x H' _ _ y => y)⟩⟩
/-- t + u -/
@[irreducible] def CatG (K : PySem.W.Frag) : R2 := rCatA K
theorem op_catG {X : Cx} : OpR X (binaryOp .Add) (CatG X.K) := by
  unfold CatG
  exact op_catA
theorem op_catG' {X : Cx} {K : PySem.W.Frag} (hK : X.K = K) : OpR X (binaryOp .Add) (CatG K) := by
  subst hK
  exact op_catG
theorem catA_of {K : PySem.W.Frag} {H : Hp} {a b : Addr} {xs ys : List V} {Q : VK} (ha : SqT K H a xs) (hb : SqT K H b ys) (hl : xs.length + ys.length ≤ sizeLine)
    (q : ∀ t H', Same H H' → SqT K H' t (xs ++ ys) → Q (.ref t) H') : CatG K (.ref a) (.ref b) H Q := by
  unfold CatG
  refine ⟨a, b, xs, ys, rfl, rfl, ha, hb, hl, ?_, ?_, ?_⟩
  · intro e
    subst e
    exact q b H (Same.refl H) (by simpa using hb)
  · intro _ e
    subst e
    exact q a H (Same.refl H) (by simpa using ha)
  · intro _ _ p hp
    exact q p _ (smNew1 hp _) (SqT.of upd_same)
end RM

set_option Elab.async false
set_option linter.all false
set_option maxRecDepth 100000
set_option maxHeartbeats 2000000
namespace RM
open PySem PySem.Spec PyProof.Rows L2
/-! ### data in the heap -/
section
variable {K : PySem.W.Frag} {H H' : Hp}
mutual
theorem Dp.keep (e : Same H H') : ∀ {v : V} {d : PyData}, Dp K H v d → Dp K H' v d
  | _, _, .non => .non
  | _, _, .bl b => .bl b
  | _, _, .int i => .int i
  | _, _, .str x => .str x
  | _, _, .lst h r => .lst (e.seq h) (DpAll.keep e r)
  | _, _, .tup h r => .tup (smT e h) (DpAll.keep e r)
theorem DpAll.keep (e : Same H H') : ∀ {vs : List V} {ds : List PyData}, DpAll K H vs ds → DpAll K H' vs ds
  | _, _, .nil => .nil
  | _, _, .cons h r => .cons (Dp.keep e h) (DpAll.keep e r)
end
theorem DpAll.len : ∀ {vs : List V} {ds : List PyData}, DpAll K H vs ds → vs.length = ds.length
  | _, _, .nil => rfl
  | _, _, .cons h r => congrArg (· + 1) (DpAll.len r)
theorem DpAll.get : ∀ {vs : List V} {ds : List PyData}, DpAll K H vs ds → ∀ {i : Nat} {d : PyData}, ds[i]? = some d → ∃ v, vs[i]? = some v ∧ Dp K H v d
  | _, _, .nil, i, d, e => by simp at e
  | _, _, .cons h r, 0, d, e => by
    have e' := Option.some.inj e
    subst e'
    exact ⟨_, rfl, h⟩
  | _, _, .cons h r, i + 1, d, e => DpAll.get r (i := i) (by simpa using e)
theorem DpAll.getV : ∀ {vs : List V} {ds : List PyData}, DpAll K H vs ds → ∀ {i : Nat} {v : V}, vs[i]? = some v → ∃ d, ds[i]? = some d ∧ Dp K H v d
  | _, _, .nil, i, d, e => by simp at e
  | _, _, .cons h r, 0, d, e => by
    have e' := Option.some.inj e
    subst e'
    exact ⟨_, rfl, h⟩
  | _, _, .cons h r, i + 1, d, e => DpAll.getV r (i := i) (by simpa using e)
theorem DpAll.snoc : ∀ {vs : List V} {ds : List PyData} {v : V} {d : PyData}, DpAll K H vs ds → Dp K H v d → DpAll K H (vs ++ [v]) (ds ++ [d])
  | _, _, _, _, .nil, h => .cons h .nil
  | _, _, _, _, .cons g r, h => .cons g (DpAll.snoc r h)
theorem DpAll.app : ∀ {vs us : List V} {ds es : List PyData}, DpAll K H vs ds → DpAll K H us es → DpAll K H (vs ++ us) (ds ++ es)
  | _, _, _, _, .nil, h => h
  | _, _, _, _, .cons g r, h => .cons g (DpAll.app r h)
theorem Dp.str_inv {v : V} {x : Str} (h : Dp K H v (.str x)) : v = .str x := by cases h; rfl
theorem Dp.int_inv {v : V} {i : Int} (h : Dp K H v (.int i)) : v = .int i := by cases h; rfl
theorem Dp.tup_inv {v : V} {ds : List PyData} (h : Dp K H v (.tuple ds)) : ∃ a xs, v = .ref a ∧ SqT K H a xs ∧ DpAll K H xs ds := by cases h with | tup h r => exact ⟨_, _, rfl, h, r⟩
theorem Dp.lst_inv {v : V} {ds : List PyData} (h : Dp K H v (.list ds)) : ∃ a xs, v = .ref a ∧ SqL K H a xs ∧ DpAll K H xs ds := by cases h with | lst h r => exact ⟨_, _, rfl, h, r⟩
theorem DpAll.cons_inv {vs : List V} {d : PyData} {ds : List PyData} (h : DpAll K H vs (d :: ds)) : ∃ v r, vs = v :: r ∧ Dp K H v d ∧ DpAll K H r ds := by cases h with | cons h r => exact ⟨_, _, rfl, h, r⟩
theorem DpAll.nil_inv {vs : List V} (h : DpAll K H vs []) : vs = [] := by cases h; rfl
end
/-- a sequence: a list or a tuple -/
def seqD (fl : Bool) (l : List PyData) : PyData := if fl then .list l else .tuple l
theorem seqD_inv {K : PySem.W.Frag} {H : Hp} {v : V} {fl : Bool} {ds : List PyData} (h : Dp K H v (seqD fl ds)) : ∃ a xs, v = .ref a ∧ (SqL K H a xs ∨ SqT K H a xs) ∧ DpAll K H xs ds := by
  cases fl with
  | true => obtain ⟨a, xs, e, h1, h2⟩ := Dp.lst_inv h; exact ⟨a, xs, e, .inl h1, h2⟩
  | false => obtain ⟨a, xs, e, h1, h2⟩ := Dp.tup_inv h; exact ⟨a, xs, e, .inr h1, h2⟩
/-! ### statements -/
inductive Stm where
  | read (v k : Str) | set (v : Str) (n : Int) | copy (v u : Str) | print (v : Str) | say (n : Int) | wait
  | ite (v : Str) (n : Int) (a b : List Stm) | same (v u : Str) (a b : List Stm) | rep (n : Int) (a : List Stm) | stop
namespace Stm
def word : Stm → Str
  | .read .. => "read" | .set .. => "set" | .copy .. => "copy" | .print .. => "print" | .say .. => "say" | .wait => "wait"
  | .ite .. => "if" | .same .. => "same" | .rep .. => "repeat" | .stop => "stop"
def form : Stm → Str
  | .read .. => "kk" | .set .. => "kv" | .copy .. => "kk" | .print .. => "k" | .say .. => "v" | .wait => ""
  | .ite .. => "kvbb" | .same .. => "kkbb" | .rep .. => "tb" | .stop => ""
def flats : Stm → List PyData
  | .read v k => [.str v, .str k] | .set v n => [.str v, .int n] | .copy v u => [.str v, .str u] | .print v => [.str v] | .say n => [.int n] | .wait => []
  | .ite v n _ _ => [.str v, .int n] | .same v u _ _ => [.str v, .str u] | .rep n _ => [.int n] | .stop => []
def bodies : Stm → List (List Stm)
  | .ite _ _ a b => [a, b] | .same _ _ a b => [a, b] | .rep _ a => [a]
  | _ => []
/-- the variables that it names -/
def names : Stm → List Str
  | .read v _ => [v] | .set v _ => [v] | .copy v u => [v, u] | .print v => [v] | .say _ => [] | .wait => []
  | .ite v _ _ _ => [v] | .same v u _ _ => [v, u] | .rep _ _ => [] | .stop => []
end Stm
mutual
def encS (fl : Bool) : Stm → PyData
  | .read v k => .tuple [.str "read", .str v, .str k]
  | .set v n => .tuple [.str "set", .str v, .int n]
  | .copy v u => .tuple [.str "copy", .str v, .str u]
  | .print v => .tuple [.str "print", .str v]
  | .say n => .tuple [.str "say", .int n]
  | .wait => .tuple [.str "wait"]
  | .ite v n a b => .tuple [.str "if", .str v, .int n, seqD fl (encB fl a), seqD fl (encB fl b)]
  | .same v u a b => .tuple [.str "same", .str v, .str u, seqD fl (encB fl a), seqD fl (encB fl b)]
  | .rep n a => .tuple [.str "repeat", .int n, seqD fl (encB fl a)]
  | .stop => .tuple [.str "stop"]
def encB (fl : Bool) : List Stm → List PyData
  | [] => []
  | s :: r => encS fl s :: encB fl r
end
theorem encB_map (fl : Bool) : ∀ l : List Stm, encB fl l = l.map (encS fl)
  | [] => rfl
  | s :: r => by rw [encB, List.map_cons, encB_map fl r]
theorem encS_eq (fl : Bool) (s : Stm) : encS fl s = .tuple (.str s.word :: (s.flats ++ s.bodies.map fun b => seqD fl (encB fl b))) := by
  cases s <;> simp only [encS] <;> rfl
/-! ### words, values -/
def isValue (n : Int) : Bool := decide (-99 ≤ n) && decide (n ≤ 99)
def isLet (c : Nat) : Bool := decide (c ∈ ("abcdefghijklmnopqrstuvwxyz" : Str).cps.toList)
def isWord (z : Str) : Bool := decide (1 ≤ z.length) && decide (z.length ≤ 6) && z.cps.toList.all isLet
theorem isWord_len {z : Str} (h : isWord z = true) : z.length ≤ 6 := by
  unfold isWord at h
  rw [Bool.and_eq_true, Bool.and_eq_true] at h
  exact of_decide_eq_true h.1.2
theorem word_size {z : Str} (h : isWord z = true) : z.length ≤ sizeLine := Nat.le_of_lt (small1000 (by have := isWord_len h; omega))
/-- what stands in a statement itself is right -/
def wl : Stm → Bool
  | .read v k => isWord v && isWord k | .set v n => isWord v && isValue n | .copy v u => isWord v && isWord u | .print v => isWord v | .say n => isValue n | .wait => true
  | .ite v n _ _ => isWord v && isValue n | .same v u _ _ => isWord v && isWord u | .rep n _ => decide (0 ≤ n) && decide (n ≤ 3) | .stop => true
mutual
def wS : Stm → Bool
  | .read v k => isWord v && isWord k | .set v n => isWord v && isValue n | .copy v u => isWord v && isWord u | .print v => isWord v | .say n => isValue n | .wait => true
  | .ite v n a b => isWord v && isValue n && (wB a && wB b) | .same v u a b => isWord v && isWord u && (wB a && wB b) | .rep n a => (decide (0 ≤ n) && decide (n ≤ 3)) && wB a | .stop => true
def wB : List Stm → Bool
  | [] => true
  | s :: r => wS s && wB r
end
theorem wl_of {s : Stm} (h : wS s = true) : wl s = true := by
  cases s <;> simp only [wS, wl] at h ⊢ <;> first | exact h | exact (Bool.and_eq_true_iff.mp h).1
theorem wB_of {s : Stm} (h : wS s = true) : ∀ b ∈ s.bodies, wB b = true := by
  cases s <;> simp only [wS, Stm.bodies, List.mem_cons, List.not_mem_nil, or_false, Bool.and_eq_true, false_implies, implies_true] at h ⊢
  · rintro b (rfl | rfl)
    · exact h.2.1
    · exact h.2.2
  · rintro b (rfl | rfl)
    · exact h.2.1
    · exact h.2.2
  · rintro b rfl
    exact h.2
theorem wB_all : ∀ {l : List Stm}, wB l = true → ∀ s ∈ l, wS s = true
  | [], _, s, h => by simp at h
  | t :: r, w, s, h => by
    rw [wB, Bool.and_eq_true] at w
    rcases List.mem_cons.mp h with rfl | h
    · exact w.1
    · exact wB_all w.2 s h
theorem isValue_rep {n : Int} (h : (decide (0 ≤ n) && decide (n ≤ 3)) = true) : isValue n = true := by
  rw [Bool.and_eq_true] at h
  have h1 := of_decide_eq_true h.1
  have h2 := of_decide_eq_true h.2
  unfold isValue
  rw [decide_eq_true (by omega), decide_eq_true (by omega)]
  rfl
/-! ### numbers of a statement -/
mutual
/-- how deep bodies are nested in a statement, a body -/
def dS : Stm → Nat
  | .ite _ _ a b => max (dB a) (dB b)
  | .same _ _ a b => max (dB a) (dB b)
  | .rep _ a => dB a
  | _ => 0
def dB : List Stm → Nat
  | [] => 1
  | s :: r => max (dS s + 1) (dB r)
end
mutual
/-- how many statements, inner ones counted -/
def cS : Stm → Nat
  | .ite _ _ a b => 1 + cB a + cB b
  | .same _ _ a b => 1 + cB a + cB b
  | .rep _ a => 1 + cB a
  | _ => 1
def cB : List Stm → Nat
  | [] => 0
  | s :: r => cS s + cB r
end
mutual
/-- the statements of a body with their paths, in the order of the text -/
def aS (p : List Int) : Stm → List (List Int × Stm)
  | .ite v n a b => (p, .ite v n a b) :: (aB (p ++ [0]) 0 a ++ aB (p ++ [1]) 0 b)
  | .same v u a b => (p, .same v u a b) :: (aB (p ++ [0]) 0 a ++ aB (p ++ [1]) 0 b)
  | .rep n a => (p, .rep n a) :: aB (p ++ [0]) 0 a
  | s => [(p, s)]
def aB (p : List Int) (i : Nat) : List Stm → List (List Int × Stm)
  | [] => []
  | s :: r => aS (p ++ [(i : Int)]) s ++ aB p (i + 1) r
end
theorem dB_one : ∀ l : List Stm, 1 ≤ dB l
  | [] => Nat.le_refl 1
  | s :: r => by rw [dB]; exact Nat.le_trans (dB_one r) (Nat.le_max_right _ _)
theorem dB_mem : ∀ {l : List Stm} {s : Stm}, s ∈ l → dS s + 1 ≤ dB l
  | [], s, h => by simp at h
  | t :: r, s, h => by
    rw [dB]
    rcases List.mem_cons.mp h with rfl | h
    · exact Nat.le_max_left _ _
    · exact Nat.le_trans (dB_mem h) (Nat.le_max_right _ _)
theorem dS_mem {s : Stm} {b : List Stm} (h : b ∈ s.bodies) : dB b ≤ dS s := by
  cases s <;> simp only [Stm.bodies, List.mem_cons, List.not_mem_nil, or_false] at h <;> simp only [dS]
  · rcases h with rfl | rfl
    · exact Nat.le_max_left _ _
    · exact Nat.le_max_right _ _
  · rcases h with rfl | rfl
    · exact Nat.le_max_left _ _
    · exact Nat.le_max_right _ _
  · rw [h]; exact Nat.le_refl _
theorem cS_pos (s : Stm) : 1 ≤ cS s := by cases s <;> simp only [cS] <;> omega
theorem cB_mem : ∀ {l : List Stm} {s : Stm}, s ∈ l → cS s ≤ cB l
  | [], s, h => by simp at h
  | t :: r, s, h => by
    rw [cB]
    rcases List.mem_cons.mp h with rfl | h
    · omega
    · have := cB_mem h; omega
theorem cS_mem {s : Stm} {b : List Stm} (h : b ∈ s.bodies) : cB b + 1 ≤ cS s := by
  cases s <;> simp only [Stm.bodies, List.mem_cons, List.not_mem_nil, or_false] at h <;> simp only [cS]
  · rcases h with rfl | rfl <;> omega
  · rcases h with rfl | rfl <;> omega
  · rw [h]; omega
theorem cB_len : ∀ l : List Stm, l.length ≤ cB l
  | [] => Nat.le_refl 0
  | s :: r => by
    have := cB_len r
    have := cS_pos s
    rw [cB, List.length_cons]
    omega
/-! ### kinds -/
theorem tyT {K : PySem.W.Frag} {H : Hp} {a : Addr} {xs : List V} (h : SqT K H a xs) : TyX K H (.ref a) (.type "tuple") := by
  rcases h with (h | ⟨o, h⟩) | ⟨o, its, n, h, hc, _⟩
  · exact .base (.tup h)
  · exact .fTuple h
  · exact .kTuple h hc
theorem tyL {K : PySem.W.Frag} {H : Hp} {a : Addr} {xs : List V} (h : SqL K H a xs) : TyX K H (.ref a) (.type "list") := by
  rcases h with (h | ⟨o, h⟩) | ⟨o, its, n, h, hc, _⟩
  · exact .base (.lst h)
  · exact .base (.frz h)
  · exact .kList h hc
/-! ### cuts -/
theorem cut_tail (x : V) (xs : List V) : cutV (x :: xs) (some 1) none = xs := by
  unfold cutV
  have e1 : HT.sIx (x :: xs).length 0 (some 1) = 1 := by
    have := HT.sIx_nat (x :: xs).length 0 1
    rw [show (some 1 : Option Int) = some ((1 : Nat) : Int) from rfl, this, List.length_cons]
    omega
  rw [e1, HT.sIx_none, List.length_cons]
  show (xs.drop 0).take (xs.length + 1 - 1) = xs
  rw [List.drop_zero, Nat.add_sub_cancel, List.take_length]
theorem cut_not {x : V} {xs : List V} : ¬ (HT.sIx (x :: xs).length 0 (some 1) = 0 ∧ HT.sIx (x :: xs).length (x :: xs).length none = (x :: xs).length) := by
  intro h
  have := HT.sIx_nat (x :: xs).length 0 1
  rw [show (some 1 : Option Int) = some ((1 : Nat) : Int) from rfl, this, List.length_cons] at h
  omega
/-! ### comprehensions over a walk: what is kept of each item -/
theorem paired_mono {α β : Type} {F G : α → β → Prop} {l : List α} {m : List β} (p : Paired F l m) (h : ∀ a b, F a b → G a b) : Paired G l m := L2.Paired.mapP p h
/-- a new item goes to the list at D -/
abbrev addsL (D : Addr) (te : TE) : L2.St → Hp → (Hp → Prop) → Prop := fun σ H N => te σ H fun y H1 => ∃ acc, H1 D = some (.lst acc) ∧ acc.length < sizeLine ∧ N (upd H1 D (.lst (acc ++ [y])))
theorem lc_opt {α : Type} {J : It} {n : Nat} {G : Hp → Prop} {Y : Nat → Hp → V → Hp → Prop} (wk : Walk J n G Y) {g : TG} {tt : TT} {te : TE} {vs : List Nat} {σ : L2.St} {H1 : Hp} {D : Addr} {Qd : Hp → Prop}
    (R : α → V → Hp → Prop) (o : Nat → Option α) (hD : H1 D = none) (hn : n < sizeLine) (hG : ∀ H, Same H1 H → G H)
    (hR : ∀ a y H H', R a y H → Same H H' → R a y H') (hRD : ∀ a y H l l', R a y H → H D = some (.lst l) → R a y (upd H D (.lst l')))
    (hs : ∀ i x H H' (N : Hp → Prop), i < n → Same H1 H → Y i H x H' →
      (∀ y H4 a, o i = some a → Same H H4 → R a y H4 → ∃ acc, H4 D = some (.lst acc) ∧ acc.length < sizeLine ∧ N (upd H4 D (.lst (acc ++ [y])))) → (o i = none → ∀ H3, Same H H3 → N H3) →
      g x (wipe σ vs) H' fun σ2 H2 => wipe σ2 vs = wipe σ vs ∧ tt σ2 H2 fun b H3 => if b = true then addsL D te σ2 H3 N else N H3)
    (hd : ∀ H ys, Same H1 H → H D = some (.lst ys) → Paired (fun y a => R a y H) ys ((List.range n).filterMap o) → Qd H) :
    ∃ W : Nat → Nat → Hp → Prop, (∃ m, W 0 m (upd H1 D (.lst []))) ∧ Turns J g tt (addsL D te) (wipe σ vs) vs W Qd := by
  have len : ∀ i, ((List.range i).filterMap o).length ≤ i := fun i => Nat.le_trans (List.length_filterMap_le ..) (by simp)
  refine lc_it wk (fun i H => i ≤ n ∧ Same H1 H ∧ ∃ acc, H D = some (.lst acc) ∧ Paired (fun y a => R a y H) acc ((List.range i).filterMap o)) ⟨Nat.zero_le _, smNew1 hD _, [], upd_same, .nil⟩ (fun i H _ h => hG H h.2.1) ?_ ?_
  · rintro i x H H' hi ⟨_, s1, acc, hacc, p⟩ y
    refine hs i x H H' _ hi s1 y (fun y H4 a ha s4 r => ⟨acc, s4 _ _ hacc, ?_, hi, ?_, acc ++ [y], upd_same, ?_⟩) (fun ha H3 s3 => ⟨hi, fun b u q => s3 _ _ (s1 _ _ q), acc, s3 _ _ hacc, ?_⟩)
    · have := p.length
      have := len i
      omega
    · intro b u q
      rw [upd_ne (ne_of_none q hD)]
      exact s4 _ _ (s1 _ _ q)
    · rw [List.range_succ, List.filterMap_append, List.filterMap_cons, ha]
      refine Paired.snoc (paired_mono p fun y' a' r' => ?_) ?_
      · exact hRD _ _ _ _ _ (hR _ _ _ _ r' s4) (s4 _ _ hacc)
      · exact hRD _ _ _ _ _ r (s4 _ _ hacc)
    · rw [List.range_succ, List.filterMap_append, List.filterMap_cons, ha]
      show Paired _ acc (_ ++ [])
      rw [List.append_nil]
      exact paired_mono p fun y' a' r' => hR _ _ _ _ r' s3
  · rintro H ⟨_, s1, acc, hacc, p⟩
    exact hd H acc s1 hacc p
theorem paired_const {α β : Type} {v : α} : ∀ {ys : List α} {l : List β}, Paired (fun y _ => y = v) ys l → ys = List.replicate l.length v
  | _, _, .nil => rfl
  | _, _, .cons h t => by rw [h, paired_const t]; rfl
theorem range_some {α : Type} (f : Nat → α) (n : Nat) : (List.range n).filterMap (fun i => some (f i)) = (List.range n).map f := by
  induction n with
  | zero => rfl
  | succ n ih => rw [List.range_succ, List.filterMap_append, List.map_append, ih]; rfl
theorem rep_bl (n : Nat) : List.replicate n (V.bl true) = (List.replicate n true).map V.bl := (List.map_replicate ..).symm
theorem all_rep (n : Nat) : (List.replicate n true).all id = true := by
  rw [List.all_eq_true]
  intro x hx
  rw [(List.mem_replicate.mp hx).2]
  rfl
/-! ### data without lists -/
mutual
def noL : PyData → Bool
  | .list _ => false
  | .tuple ds => noLs ds
  | .dict _ => false
  | _ => true
def noLs : List PyData → Bool
  | [] => true
  | d :: r => noL d && noLs r
end
section
variable {K : PySem.W.Frag} {H H' : Hp}
mutual
theorem dp_ts (e : TS K H H') : ∀ {v : V} {d : PyData}, Dp K H v d → noL d = true → Dp K H' v d
  | _, _, .non, _ => .non
  | _, _, .bl b, _ => .bl b
  | _, _, .int i, _ => .int i
  | _, _, .str x, _ => .str x
  | _, _, .lst _ _, n => by simp [noL] at n
  | _, _, .tup h r, n => .tup (e _ _ h) (dps_ts e r (by simpa [noL] using n))
theorem dps_ts (e : TS K H H') : ∀ {vs : List V} {ds : List PyData}, DpAll K H vs ds → noLs ds = true → DpAll K H' vs ds
  | _, _, .nil, _ => .nil
  | _, _, .cons h r, n => by
    rw [noLs, Bool.and_eq_true] at n
    exact .cons (dp_ts e h n.1) (dps_ts e r n.2)
end
end
mutual
theorem noL_encS : ∀ s : Stm, noL (encS false s) = true
  | .read v k => rfl
  | .set v n => rfl
  | .copy v u => rfl
  | .print v => rfl
  | .say n => rfl
  | .wait => rfl
  | .stop => rfl
  | .ite v n a b => by
    have h1 := noL_encB a
    have h2 := noL_encB b
    simp only [encS, seqD, Bool.false_eq_true, if_false, noL, noLs, h1, h2, Bool.and_self]
  | .same v u a b => by
    have h1 := noL_encB a
    have h2 := noL_encB b
    simp only [encS, seqD, Bool.false_eq_true, if_false, noL, noLs, h1, h2, Bool.and_self]
  | .rep n a => by
    have h1 := noL_encB a
    simp only [encS, seqD, Bool.false_eq_true, if_false, noL, noLs, h1, Bool.and_self]
theorem noL_encB : ∀ l : List Stm, noLs (encB false l) = true
  | [] => rfl
  | s :: r => by
    have h1 := noL_encS s
    have h2 := noL_encB r
    rw [encB, noLs, h1, h2]
    rfl
end
theorem noLs_get : ∀ {ds : List PyData}, noLs ds = true → ∀ d ∈ ds, noL d = true
  | [], _, d, h => by simp at h
  | e :: r, n, d, h => by
    rw [noLs, Bool.and_eq_true] at n
    rcases List.mem_cons.mp h with rfl | h
    · exact n.1
    · exact noLs_get n.2 d h
theorem noLs_of : ∀ {ds : List PyData}, (∀ d ∈ ds, noL d = true) → noLs ds = true
  | [], _ => rfl
  | e :: r, h => by rw [noLs, h e List.mem_cons_self, noLs_of fun d hd => h d (List.mem_cons_of_mem _ hd)]; rfl
theorem noLs_app : ∀ {ds es : List PyData}, noLs ds = true → noLs es = true → noLs (ds ++ es) = true
  | [], _, _, h => h
  | e :: r, es, n, h => by
    rw [noLs, Bool.and_eq_true] at n
    rw [List.cons_append, noLs, n.1, noLs_app n.2 h]
    rfl
/-- a tuple of ints -/
def pathD (p : List Int) : PyData := .tuple (p.map .int)
theorem noL_path (p : List Int) : noL (pathD p) = true := by
  show noLs (p.map .int) = true
  exact noLs_of fun d h => by
    obtain ⟨i, _, rfl⟩ := List.mem_map.mp h
    rfl
theorem ints_dp {K : PySem.W.Frag} {H : Hp} : ∀ p : List Int, DpAll K H (p.map V.int) (p.map .int)
  | [] => .nil
  | i :: r => .cons (.int i) (ints_dp r)
theorem ints_inv {K : PySem.W.Frag} {H : Hp} : ∀ {p : List Int} {vs : List V}, DpAll K H vs (p.map .int) → vs = p.map V.int
  | [], _, h => DpAll.nil_inv h
  | i :: r, _, h => by
    obtain ⟨v, q, rfl, h1, h2⟩ := DpAll.cons_inv h
    rw [Dp.int_inv h1, ints_inv h2]
    rfl
theorem path_dp {K : PySem.W.Frag} {H : Hp} {a : Addr} {p : List Int} (h : SqT K H a (p.map V.int)) : Dp K H (.ref a) (pathD p) := .tup h (ints_dp p)
theorem path_inv {K : PySem.W.Frag} {H : Hp} {v : V} {p : List Int} (h : Dp K H v (pathD p)) : ∃ a, v = .ref a ∧ SqT K H a (p.map V.int) := by
  obtain ⟨a, xs, rfl, h1, h2⟩ := Dp.tup_inv h
  rw [ints_inv h2] at h1
  exact ⟨a, rfl, h1⟩
/-! ### the signs of a statement's items -/
def Stm.signs : Stm → List Nat
  | .read .. => [107, 107] | .set .. => [107, 118] | .copy .. => [107, 107] | .print .. => [107] | .say .. => [118] | .wait => []
  | .ite .. => [107, 118, 98, 98] | .same .. => [107, 107, 98, 98] | .rep .. => [116, 98] | .stop => []
theorem signs_eq (s : Stm) : s.form.cps.toList = s.signs := by cases s <;> (simp only [Stm.form, Stm.signs]; decide +kernel)
theorem sign_at {s : Stm} {i c : Nat} (h : s.form.cps[i]? = some c) : s.signs[i]? = some c := by rw [← signs_eq]; simpa using h
/-- one sign of a text beside another -/
theorem sgn (c x : Nat) : decide (V.str ⟨#[c]⟩ = V.str ⟨#[x]⟩) = decide (c = x) := by
  by_cases h : c = x
  · rw [h, decide_eq_true rfl, decide_eq_true rfl]
  · rw [decide_eq_false h, decide_eq_false]
    intro e
    injection e with e1
    injection e1 with e2
    exact h (by simpa using e2)
theorem str_k : ("k" : Str) = ⟨#[107]⟩ := by decide +kernel
theorem str_b : ("b" : Str) = ⟨#[98]⟩ := by decide +kernel
/-- the items that are bodies, by their signs -/
theorem bodies_sel (s : Stm) (f : List Stm → PyData) :
    (List.range (s.flats ++ s.bodies.map f).length).filterMap (fun i => if s.signs[i]? = some 98 then (s.flats ++ s.bodies.map f)[i]? else none) = s.bodies.map f := by
  cases s <;> rfl
theorem names_sel (s : Stm) (f : List Stm → PyData) (h : ∀ v k, s ≠ .read v k) :
    (List.range (s.flats ++ s.bodies.map f).length).filterMap (fun i => if s.signs[i]? = some 107 then (s.flats ++ s.bodies.map f)[i]? else none) = s.names.map .str := by
  cases s <;> first | rfl | exact absurd rfl (h _ _)
theorem some_range {α : Type} : ∀ (l : List α), (List.range l.length).filterMap (fun i => l[i]?) = l := by
  intro l
  have e : ∀ n, n ≤ l.length → (List.range n).filterMap (fun i => l[i]?) = l.take n := by
    intro n
    induction n with
    | zero => intro _; simp
    | succ n ih =>
      intro hn
      rw [List.range_succ, List.filterMap_append, ih (by omega), List.take_add_one]
      have : l[n]? = some l[n] := List.getElem?_eq_getElem (by omega)
      simp [this]
  rw [e l.length (Nat.le_refl _), List.take_length]
theorem sign98 {s : Stm} {i : Nat} (h : s.signs[i]? = some 98) : ∃ b ∈ s.bodies, ∀ f : List Stm → PyData, (s.flats ++ s.bodies.map f)[i]? = some (f b) := by
  cases s with
  | ite v n a b =>
    match i, h with
    | 2, _ => exact ⟨a, by simp [Stm.bodies], fun f => rfl⟩
    | 3, _ => exact ⟨b, by simp [Stm.bodies], fun f => rfl⟩
    | 0, h => simp [Stm.signs] at h
    | 1, h => simp [Stm.signs] at h
    | n + 4, h => simp [Stm.signs] at h
  | same v n a b =>
    match i, h with
    | 2, _ => exact ⟨a, by simp [Stm.bodies], fun f => rfl⟩
    | 3, _ => exact ⟨b, by simp [Stm.bodies], fun f => rfl⟩
    | 0, h => simp [Stm.signs] at h
    | 1, h => simp [Stm.signs] at h
    | n + 4, h => simp [Stm.signs] at h
  | rep n a =>
    match i, h with
    | 1, _ => exact ⟨a, by simp [Stm.bodies], fun f => rfl⟩
    | 0, h => simp [Stm.signs] at h
    | n + 2, h => simp [Stm.signs] at h
  | read v k => match i, h with
    | 0, h => simp [Stm.signs] at h
    | 1, h => simp [Stm.signs] at h
    | n + 2, h => simp [Stm.signs] at h
  | set v k => match i, h with
    | 0, h => simp [Stm.signs] at h
    | 1, h => simp [Stm.signs] at h
    | n + 2, h => simp [Stm.signs] at h
  | copy v k => match i, h with
    | 0, h => simp [Stm.signs] at h
    | 1, h => simp [Stm.signs] at h
    | n + 2, h => simp [Stm.signs] at h
  | print v => match i, h with
    | 0, h => simp [Stm.signs] at h
    | n + 1, h => simp [Stm.signs] at h
  | say v => match i, h with
    | 0, h => simp [Stm.signs] at h
    | n + 1, h => simp [Stm.signs] at h
  | wait => simp [Stm.signs] at h
  | stop => simp [Stm.signs] at h
theorem signFlat {s : Stm} {i c : Nat} (h : s.signs[i]? = some c) (n : c ≠ 98) : ∃ d, noL d = true ∧ ∀ f : List Stm → PyData, (s.flats ++ s.bodies.map f)[i]? = some d := by
  cases s with
  | ite v m a b =>
    match i, h with
    | 0, _ => exact ⟨.str v, rfl, fun f => rfl⟩
    | 1, _ => exact ⟨.int m, rfl, fun f => rfl⟩
    | 2, h => exact absurd (Option.some.inj h).symm n
    | 3, h => exact absurd (Option.some.inj h).symm n
    | k + 4, h => simp [Stm.signs] at h
  | same v m a b =>
    match i, h with
    | 0, _ => exact ⟨.str v, rfl, fun f => rfl⟩
    | 1, _ => exact ⟨.str m, rfl, fun f => rfl⟩
    | 2, h => exact absurd (Option.some.inj h).symm n
    | 3, h => exact absurd (Option.some.inj h).symm n
    | k + 4, h => simp [Stm.signs] at h
  | rep m a =>
    match i, h with
    | 0, _ => exact ⟨.int m, rfl, fun f => rfl⟩
    | 1, h => exact absurd (Option.some.inj h).symm n
    | k + 2, h => simp [Stm.signs] at h
  | read v k => match i, h with
    | 0, h => exact ⟨.str v, rfl, fun f => rfl⟩
    | 1, h => exact ⟨.str k, rfl, fun f => rfl⟩
    | n + 2, h => simp [Stm.signs] at h
  | set v k => match i, h with
    | 0, h => exact ⟨.str v, rfl, fun f => rfl⟩
    | 1, h => exact ⟨.int k, rfl, fun f => rfl⟩
    | n + 2, h => simp [Stm.signs] at h
  | copy v k => match i, h with
    | 0, h => exact ⟨.str v, rfl, fun f => rfl⟩
    | 1, h => exact ⟨.str k, rfl, fun f => rfl⟩
    | n + 2, h => simp [Stm.signs] at h
  | print v => match i, h with
    | 0, h => exact ⟨.str v, rfl, fun f => rfl⟩
    | n + 1, h => simp [Stm.signs] at h
  | say v => match i, h with
    | 0, h => exact ⟨.int v, rfl, fun f => rfl⟩
    | n + 1, h => simp [Stm.signs] at h
  | wait => simp [Stm.signs] at h
  | stop => simp [Stm.signs] at h
theorem items_len (s : Stm) (f : List Stm → PyData) : (s.flats ++ s.bodies.map f).length = s.signs.length := by cases s <;> rfl
/-! ### paths -/
def aBs (q : List Int) : Nat → List (List Stm) → List (List Int × Stm)
  | _, [] => []
  | j, b :: r => aB (q ++ [(j : Int)]) 0 b ++ aBs q (j + 1) r
theorem aS_eq (q : List Int) (s : Stm) : aS q s = (q, s) :: aBs q 0 s.bodies := by
  cases s <;> simp only [aS, Stm.bodies, aBs, List.append_nil] <;> rfl
theorem aB_app (p : List Int) : ∀ (l m : List Stm) (k : Nat), aB p k (l ++ m) = aB p k l ++ aB p (k + l.length) m
  | [], m, k => rfl
  | s :: r, m, k => by
    rw [List.cons_append, aB, aB, aB_app p r m (k + 1), List.append_assoc, List.length_cons]
    rw [show k + 1 + r.length = k + (r.length + 1) by omega]
theorem aBs_app (q : List Int) : ∀ (l m : List (List Stm)) (k : Nat), aBs q k (l ++ m) = aBs q k l ++ aBs q (k + l.length) m
  | [], m, k => rfl
  | s :: r, m, k => by
    rw [List.cons_append, aBs, aBs, aBs_app q r m (k + 1), List.append_assoc, List.length_cons]
    rw [show k + 1 + r.length = k + (r.length + 1) by omega]
theorem take_more {α : Type} {l : List α} {i : Nat} {x : α} (h : l[i]? = some x) : l.take (i + 1) = l.take i ++ [x] := by
  rw [List.take_add_one, h]
  rfl
theorem len_take {α : Type} {l : List α} {i : Nat} {x : α} (h : l[i]? = some x) : (l.take i).length = i := by
  have := (List.getElem?_eq_some_iff.mp h).1
  rw [List.length_take]
  omega
theorem aB_take {p : List Int} {l : List Stm} {i : Nat} {s : Stm} (h : l[i]? = some s) : aB p 0 (l.take (i + 1)) = aB p 0 (l.take i) ++ aS (p ++ [(i : Int)]) s := by
  rw [take_more h, aB_app, len_take h]
  show _ ++ aB p (0 + i) [s] = _
  rw [Nat.zero_add, aB, aB, List.append_nil]
theorem aBs_take {q : List Int} {l : List (List Stm)} {i : Nat} {b : List Stm} (h : l[i]? = some b) : aBs q 0 (l.take (i + 1)) = aBs q 0 (l.take i) ++ aB (q ++ [(i : Int)]) 0 b := by
  rw [take_more h, aBs_app, len_take h]
  show _ ++ aBs q (0 + i) [b] = _
  rw [Nat.zero_add, aBs, aBs, List.append_nil]
mutual
theorem aS_len : ∀ (p : List Int) (s : Stm), (aS p s).length = cS s
  | p, .ite v n a b => by simp only [aS, cS, List.length_cons, List.length_append, aB_len]; omega
  | p, .same v n a b => by simp only [aS, cS, List.length_cons, List.length_append, aB_len]; omega
  | p, .rep n a => by simp only [aS, cS, List.length_cons, aB_len]; omega
  | p, .read v k => rfl
  | p, .set v k => rfl
  | p, .copy v k => rfl
  | p, .print v => rfl
  | p, .say v => rfl
  | p, .wait => rfl
  | p, .stop => rfl
theorem aB_len : ∀ (p : List Int) (k : Nat) (l : List Stm), (aB p k l).length = cB l
  | p, k, [] => rfl
  | p, k, s :: r => by rw [aB, cB, List.length_append, aS_len, aB_len]
end
/-! ### depths -/
def dBs : List (List Stm) → Nat
  | [] => 0
  | b :: r => max (dB b) (dBs r)
theorem dS_eq (s : Stm) : dS s = dBs s.bodies := by cases s <;> simp [dS, Stm.bodies, dBs]
theorem dBs_snoc : ∀ (l : List (List Stm)) (b : List Stm), dBs (l ++ [b]) = max (dBs l) (dB b)
  | [], b => by simp [dBs]
  | c :: r, b => by rw [List.cons_append, dBs, dBs, dBs_snoc r b, Nat.max_assoc]
theorem dB_snoc : ∀ (l : List Stm) (s : Stm), dB (l ++ [s]) = max (dB l) (dS s + 1)
  | [], s => by simp only [List.nil_append, dB]; omega
  | c :: r, s => by rw [List.cons_append, dB, dB, dB_snoc r s, Nat.max_assoc]
end RM

set_option Elab.async false
set_option linter.all false
set_option maxRecDepth 100000
set_option maxHeartbeats 2000000
/-! what == reads of a program's data -/
namespace RM
open PySem PySem.Spec PyProof.Rows L2
theorem noL_tuple {ds : List PyData} (h : noLs ds = true) : noL (.tuple ds) = true := h
theorem let_lt {c : Nat} (h : isLet c = true) : c < 128 := by
  have a : ∀ c ∈ ("abcdefghijklmnopqrstuvwxyz" : Str).cps.toList, c < 128 := by decide +kernel
  exact a c (of_decide_eq_true h)
theorem word_ok {z : Str} (h : isWord z = true) : PyData.strOk z = true := by
  unfold isWord at h
  rw [Bool.and_eq_true] at h
  unfold PyData.strOk
  rw [Array.all_eq_true]
  intro i hi
  have := List.all_eq_true.mp h.2 (z.cps[i]) (by simp)
  exact decide_eq_true (Nat.lt_trans (let_lt this) (by decide))
theorem lay_seq {fl : Bool} {ds : List PyData} (h : PyData.canLayAll0 ds = true) : (seqD fl ds).canLay0 = true := by
  cases fl <;> exact h
theorem dep_seq {fl : Bool} {ds : List PyData} : (seqD fl ds).depth = PyData.depthAll ds + 1 := by
  cases fl <;> simp only [seqD, PyData.depth] <;> rfl
theorem ok_words : ∀ z ∈ (["read", "set", "copy", "print", "say", "wait", "if", "same", "repeat", "stop"] : List Str), PyData.strOk z = true := by decide +kernel
mutual
theorem lay_encS (fl : Bool) : ∀ s : Stm, wS s = true → (encS fl s).canLay0 = true
  | .read v k, h => by
    simp only [wS, Bool.and_eq_true] at h
    simp only [encS, PyData.canLay0, PyData.canLayAll0, word_ok h.1, word_ok h.2, ok_words "read" (by decide), Bool.and_self]
  | .set v n, h => by
    simp only [wS, Bool.and_eq_true] at h
    simp only [encS, PyData.canLay0, PyData.canLayAll0, word_ok h.1, ok_words "set" (by decide), Bool.and_self]
  | .copy v u, h => by
    simp only [wS, Bool.and_eq_true] at h
    simp only [encS, PyData.canLay0, PyData.canLayAll0, word_ok h.1, word_ok h.2, ok_words "copy" (by decide), Bool.and_self]
  | .print v, h => by
    simp only [wS] at h
    simp only [encS, PyData.canLay0, PyData.canLayAll0, word_ok h, ok_words "print" (by decide), Bool.and_self]
  | .say n, h => by
    simp only [encS, PyData.canLay0, PyData.canLayAll0, ok_words "say" (by decide), Bool.and_self]
  | .wait, h => by
    simp only [encS, PyData.canLay0, PyData.canLayAll0, ok_words "wait" (by decide), Bool.and_self]
  | .stop, h => by
    simp only [encS, PyData.canLay0, PyData.canLayAll0, ok_words "stop" (by decide), Bool.and_self]
  | .ite v n a b, h => by
    simp only [wS, Bool.and_eq_true] at h
    simp only [encS, PyData.canLay0, PyData.canLayAll0, word_ok h.1.1, lay_seq (lay_encB fl a h.2.1), lay_seq (lay_encB fl b h.2.2), ok_words "if" (by decide), Bool.and_self]
  | .same v u a b, h => by
    simp only [wS, Bool.and_eq_true] at h
    simp only [encS, PyData.canLay0, PyData.canLayAll0, word_ok h.1.1, word_ok h.1.2, lay_seq (lay_encB fl a h.2.1), lay_seq (lay_encB fl b h.2.2), ok_words "same" (by decide), Bool.and_self]
  | .rep n a, h => by
    simp only [wS, Bool.and_eq_true] at h
    simp only [encS, PyData.canLay0, PyData.canLayAll0, lay_seq (lay_encB fl a h.2), ok_words "repeat" (by decide), Bool.and_self]
theorem lay_encB (fl : Bool) : ∀ l : List Stm, wB l = true → PyData.canLayAll0 (encB fl l) = true
  | [], _ => by simp only [encB, PyData.canLayAll0]
  | s :: r, h => by
    simp only [wB, Bool.and_eq_true] at h
    simp only [encB, PyData.canLayAll0, lay_encS fl s h.1, lay_encB fl r h.2, Bool.and_self]
end
mutual
theorem dep_encS (fl : Bool) : ∀ s : Stm, (encS fl s).depth ≤ 2 * dS s + 1
  | .read v k => by simp [encS, PyData.depth, PyData.depthAll]
  | .set v n => by simp [encS, PyData.depth, PyData.depthAll]
  | .copy v u => by simp [encS, PyData.depth, PyData.depthAll]
  | .print v => by simp [encS, PyData.depth, PyData.depthAll]
  | .say n => by simp [encS, PyData.depth, PyData.depthAll]
  | .wait => by simp [encS, PyData.depth, PyData.depthAll]
  | .stop => by simp [encS, PyData.depth, PyData.depthAll]
  | .ite v n a b => by
    have h1 := dep_encB fl a
    have h2 := dep_encB fl b
    simp only [encS, PyData.depth, PyData.depthAll, dep_seq, dS]
    omega
  | .same v u a b => by
    have h1 := dep_encB fl a
    have h2 := dep_encB fl b
    simp only [encS, PyData.depth, PyData.depthAll, dep_seq, dS]
    omega
  | .rep n a => by
    have h1 := dep_encB fl a
    simp only [encS, PyData.depth, PyData.depthAll, dep_seq, dS]
    omega
theorem dep_encB (fl : Bool) : ∀ l : List Stm, PyData.depthAll (encB fl l) + 1 ≤ 2 * dB l
  | [] => by simp [encB, PyData.depthAll, dB]
  | s :: r => by
    have h1 := dep_encS fl s
    have h2 := dep_encB fl r
    simp only [encB, PyData.depthAll, dB]
    omega
end
theorem shaped_encB {fl : Bool} {l : List Stm} (h : wB l = true) (hd : dB l ≤ 4) : SeqAt.shaped (seqD fl (encB fl l)) = true := by
  unfold SeqAt.shaped
  rw [lay_seq (lay_encB fl l h), dep_seq, decide_eq_true (by have := dep_encB fl l; omega)]
  rfl
theorem eqv_encB {fl : Bool} {l : List Stm} (h : wB l = true) : PyData.eqv (seqD fl (encB fl l)) (seqD fl (encB fl l)) = true := SeqAt.eqv_refl _ (lay_seq (lay_encB fl l h))
theorem encB_get {fl : Bool} {l : List Stm} {i : Nat} {d : PyData} (h : (encB fl l)[i]? = some d) : ∃ s, l[i]? = some s ∧ d = encS fl s := by
  rw [encB_map, List.getElem?_map] at h
  obtain ⟨s, hs, e⟩ := Option.map_eq_some_iff.mp h
  exact ⟨s, hs, e.symm⟩
theorem ty_seq {K : PySem.W.Frag} {H0 H : Hp} {a : Addr} {xs : List V} (h : SqL K H0 a xs ∨ SqT K H0 a xs) (e : Same H0 H) : ∃ t, TyX K H (.ref a) t ∧ PySem.W.kitAny K t [.type "list", .type "tuple"] = some true := by
  rcases h with h | h
  · exact ⟨.type "list", tyL (e.seq h), kitAny_cons (b := true) (kit_ty (by decide +kernel)) (fun z => by cases z) (fun _ => rfl)⟩
  · exact ⟨.type "tuple", tyT (smT e h), kitAny_cons (b := false) (kit_ty (by decide +kernel)) (fun _ => kitAny_cons (b := true) (kit_ty (by decide +kernel)) (fun z => by cases z) (fun _ => rfl)) (fun z => by cases z)⟩
theorem strs_inv {K : PySem.W.Frag} {H : Hp} : ∀ {zs : List Str} {vs : List V}, DpAll K H vs (zs.map .str) → vs = zs.map V.str
  | [], _, h => DpAll.nil_inv h
  | z :: zs, _, h => by
    obtain ⟨v, r, rfl, h1, h2⟩ := DpAll.cons_inv h
    rw [Dp.str_inv h1, strs_inv h2]
    rfl
theorem word_read (s : Stm) : s.word = "read" ↔ ∃ v k, s = .read v k := by
  constructor
  · intro h
    cases s <;> first | exact ⟨_, _, rfl⟩ | exact absurd (show _ = (_ : Str) from h) (by simp only [Stm.word]; decide)
  · rintro ⟨v, k, rfl⟩
    rfl
theorem paired_eq {α : Type} {f : α → V} : ∀ {ys : List V} {l : List α}, Paired (fun y a => y = f a) ys l → ys = l.map f
  | _, _, .nil => rfl
  | _, _, .cons h t => by rw [h, paired_eq t]; rfl
theorem atI_nat0 {α : Type} {xs : List α} {i : Nat} {v : α} (h : xs[i]? = some v) : atI xs (0 + (i : Nat) : Int) = some v := by rw [Int.zero_add]; exact atI_nat h
theorem mk_sm {H H' : Hp} {x dx C : Addr} (hx : H x = none) (hdx : H dx = none) (e : ∀ b u, b ≠ x → (upd (upd H dx (.own x)) x (.ins C dx [])) b = some u → H' b = some u) : Same H H' := fun b u z => by
  refine e b u (ne_of_none z hx) ?_
  rw [upd_ne (ne_of_none z hx), upd_ne (ne_of_none z hdx)]
  exact z
theorem mk_in {H : Hp} {x dx C : Addr} (hx : H x = none) (hdx : H dx = none) (hne : dx ≠ x) : Same H (upd (upd H dx (.own x)) x (.ins C dx [])) :=
  smNew (smNew1 hdx _) (by rw [upd_ne hne.symm]; exact hx) _
/-- x[i], x a list or a tuple -/
def rIxA (K : PySem.W.Frag) : R2 := fun x y H Q => ∃ p xs i v, x = .ref p ∧ y = .int i ∧ (SqL K H p xs ∨ SqT K H p xs) ∧ atI xs i = some v ∧ Q v H
theorem ix_any {X : Cx} : IxR X (rIxA X.K) := by
  intro value slice pins s σ H x y v u Q I rx ry h hs
  obtain ⟨p, xs, i, v', e1, e2, h | h, h2, q⟩ := h
  · exact ix_list value slice pins s σ H x y v u Q I rx ry ⟨p, xs, i, v', e1, e2, h, h2, q⟩ hs
  · exact ix_tup value slice pins s σ H x y v u Q I rx ry ⟨p, xs, i, v', e1, e2, h, h2, q⟩ hs
end RM

set_option Elab.async false
set_option linter.all false
set_option maxRecDepth 100000
set_option maxHeartbeats 2000000
/-! own rules of texts: spaces, str of either, replace behind a number, zip(list, text) -/
namespace RM
open PySem PySem.Spec PyProof.Rows L2
/-! ### n spaces -/
def spc (n : Nat) : Str := ⟨(List.replicate n 32).toArray⟩
theorem spc_list (n : Nat) : (spc n).cps.toList = List.replicate n 32 := rfl
theorem spc_len (n : Nat) : (spc n).length = n := by
  show (List.replicate n 32).toArray.size = n
  simp
theorem blank_list : (" " : Str).cps.toList = [32] := by decide +kernel
theorem fold_blank : ∀ (n : Nat) (acc : Array Nat), ((List.replicate n (" " : Str).cps).foldl (· ++ ·) acc).toList = acc.toList ++ List.replicate n 32
  | 0, acc => by simp
  | n + 1, acc => by
    rw [List.replicate_succ, List.foldl_cons, fold_blank n, Array.toList_append, blank_list, List.replicate_succ, List.append_assoc]
    rfl
theorem str_ext {a b : Str} (h : a.cps.toList = b.cps.toList) : a = b := by
  obtain ⟨⟨x⟩⟩ := a
  obtain ⟨⟨y⟩⟩ := b
  have e : x = y := h
  rw [e]
/-- ' ' * n -/
def rSpc : R2 := fun x y H Q => ∃ n : Nat, x = .str " " ∧ y = .int n ∧ n ≤ 1000 ∧ Q (.str (spc n)) H
theorem op_spc {X : Cx} : OpR X (binaryOp .Mult) rSpc := by
  rintro pins s σ H x y v u Q I rx ry ⟨n, rfl, rfl, hn, q⟩
  obtain ⟨t, rfl⟩ := rx
  obtain ⟨t', rfl⟩ := ry
  have one : (" " : Str).length = 1 := by decide +kernel
  have low : (decide ((n : Int) < -(2 ^ 63 : Int)) || decide ((n : Int) ≥ 2 ^ 63)) = false := by
    rw [decide_eq_false (by omega), decide_eq_false (by omega)]
    rfl
  refine PySem.P.mul_str low (fun _ _ => ?_) (fun _ _ => ?_) ?_
  · rw [one]
    intro h
    have p : (0 : Int) < n := by omega
    have := (Int.ediv_lt_iff_lt_mul p).mp (show (2 ^ 63 - 1) / (n : Int) < 1 from by omega)
    omega
  · rw [one, Nat.one_mul, Int.toNat_natCast]
    exact decide_eq_false (by have := small1000 hn; omega)
  · by_cases h0 : (n : Int) < 1
    · rw [if_pos h0]
      have e : n = 0 := by omega
      subst e
      exact ⟨by decide, .str (spc 0), H, I.tok _, ⟨_, rfl⟩, q⟩
    · rw [if_neg h0]
      by_cases h1 : ((n : Int) == 1 || (" " : Str).length == 0) = true
      · rw [if_pos h1]
        have e : n = 1 := by
          rw [one] at h1
          simp at h1
          omega
        subst e
        have q1 : spc 1 = " " := str_ext (by rw [blank_list]; rfl)
        rw [q1] at q
        exact ⟨.str " ", H, I, ⟨_, rfl⟩, q⟩
      · rw [if_neg h1]
        have e : (⟨(List.replicate (n : Int).toNat (" " : Str).cps).foldl (· ++ ·) #[]⟩ : Str) = spc n := str_ext (by
          show ((List.replicate (n : Int).toNat (" " : Str).cps).foldl (· ++ ·) #[]).toList = _
          rw [fold_blank, Int.toNat_natCast]
          rfl)
        rw [e]
        exact ⟨by rw [spc_len]; exact Nat.le_of_lt (small1000 hn), .str (spc n), H, I.tok _, ⟨_, rfl⟩, q⟩
/-! ### str(x), a text or a number -/
def rStr : List V → Hp → VK → Prop := fun xs H Q => (∃ a, xs = [.str a] ∧ Q (.str a) H) ∨ ∃ i : Int, xs = [.int i] ∧ i.natAbs.log2 < 1920 ∧ Q (.str (toString i)) H
theorem cr_str {X : Cx} : CallR X (.type "str") rStr := by
  intro pins s σ H xs us Q I r h
  rcases h with h | h
  · exact SkE.call_str_str pins s σ H xs us Q I r h
  · exact call_str_int pins s σ H xs us Q I r h
/-! ### text.replace(written, written), a number read ahead of it -/
section
variable {X : Cx} {a b o : Expr} {ta tb to : TE} {pos : Pos}
/-- behind e a token has been given out -/
def PEK (X : Cx) (e : Expr) (te : TE) : Prop := ∀ pins s σ H Q, Inv X pins σ H s → te σ H Q → wpAny (model X.prog X.w) X.A (eval e X.env) (fun u s' => 1 ≤ s'.toks ∧ EP X pins σ Q u s') X.xe s
theorem pek_int {i : Int} {j : Nat} : PEK X (.Constant (.int i) j pos) (tC (.int i)) := fun _ s _ H _ I h => wpAny_Constant_int ⟨Nat.le_add_left 1 s.toks, .int i, H, I.tok _, ⟨_, rfl⟩, h⟩
theorem pek_ix {r : R2} (hr : IxR X r) (ha : PE X a ta) (hb : PEK X b tb) (hs : PlainIx b) : PEK X (.Subscript a b pos) (tOp r ta tb) := by
  intro pins s σ H Q I h
  refine Subscript_ (thn (ha.run pins s σ H _ I h) fun v s1 z => ?_)
  obtain ⟨x, H1, I1, r1, q1⟩ := z
  refine thn (hb pins s1 σ H1 _ I1 q1) fun u s2 z => ?_
  obtain ⟨k, y, H2, I2, r2, q2⟩ := z
  exact wpAny_mono (PySem.wpAny_toks_of k (hr a b pins s2 σ H2 x y v u Q I2 r1 r2 q2 (hs _ _))) (fun _ _ z => z) fun _ _ z => z.2
def tRepl (to : TE) (y z : Str) : TE := fun σ H Q => to σ H fun v H1 => ∃ x, v = .str x ∧ x.length + (x.length + 1) * z.length ≤ 16777216 ∧ Q (.str (Txt.replace x y z)) H1
theorem pe_repl {y z : Str} {j k : Nat} {c0 c1 apos : Pos} (ho : PEK X o to) (ne : (y == z) = false := by decide)
    (two : starEach [.Constant (.str y) j c0, .Constant (.str z) k c1] X.env = [(false, eval (.Constant (.str y) j c0) X.env), (false, eval (.Constant (.str z) k c1) X.env)] := by rfl)
    (plain : attributeBase o "replace" X.env (eval o X.env) = eval o X.env := by rfl) (line : (apos.endLine == pos.line) = true := by rfl) :
    PE X (.Call (.Attribute o "replace" apos) [.Constant (.str y) j c0, .Constant (.str z) k c1] [] pos) (tRepl to y z) := by
  constructor
  intro pins s σ H Q I h
  refine PySem.Call_method2 plain two line (thn (ho pins s σ H _ I h) fun v s1 got => ?_)
  obtain ⟨k1, _, H1, I1, r1, x, rfl, few, q⟩ := got
  obtain ⟨tx, rfl⟩ := r1
  refine ⟨"str", "str.replace", PySem.F.plainAttrs_str, PySem.F.slot_str_replace, PySem.F.type_str_replace, typeIs_str _ _ _, nofun, ?_⟩
  refine Calls.callWith_builtin rfl (Calls.evalArgs_plain (Calls.spliced_cons (Calls.Constant_str (Calls.spliced_cons (Calls.Constant_str (Calls.spliced_nil ?_))))))
  refine PySem.SC.replace ?_ ?_ ?_ ne few fun t' n => ⟨.str (Txt.replace x y z), H1, I1.tok n, ⟨t', rfl⟩, q⟩
  · exact fun z => by rw [z] at k1; cases k1
  · exact Nat.succ_ne_zero _
  · exact Nat.ne_of_lt (Nat.lt_succ_self _)
end
end RM

set_option Elab.async false
set_option linter.all false
set_option maxRecDepth 100000
set_option maxHeartbeats 2000000
/-! texts of programs: lines, and what is read of a line -/
namespace RM
open PySem PySem.Spec PyProof.Rows L2
abbrev cl (z : Str) : List Nat := z.cps.toList
theorem cl_app (a b : Str) : cl (a ++ b) = cl a ++ cl b := TL.tl_append a b
theorem cl_len (z : Str) : (cl z).length = z.length := by show z.cps.toList.length = z.cps.size; simp
/-! ### numbers as texts -/
def numT (n : Int) : Str := toString n
def isDig (c : Nat) : Bool := decide (c ∈ cl "0123456789")
/-- the figures of a word: without a sign -/
def figs (z : Str) : List Nat := if (cl z).take 1 = [45] then (cl z).drop 1 else cl z
def numOf (z : Str) : Option Int :=
  if (figs z).length = 0 ∨ 2 < (figs z).length ∨ ((figs z)[0]? = some 48 ∧ cl z ≠ [48]) ∨ (figs z).all isDig = false then none else PySem.intText? z
def valsL : List Int := (List.range 199).map fun (k : Nat) => (k : Int) - 99
theorem vals_mem {n : Int} (h : isValue n = true) : n ∈ valsL := by
  unfold isValue at h
  rw [Bool.and_eq_true, decide_eq_true_eq, decide_eq_true_eq] at h
  exact List.mem_map.mpr ⟨(n + 99).toNat, List.mem_range.mpr (by omega), by show (((n + 99).toNat : Nat) : Int) - 99 = n; omega⟩
def numChk (n : Int) : Bool := decide (numOf (numT n) = some n) && (decide ((cl (numT n)).length ≤ 3) && (decide (1 ≤ (cl (numT n)).length) && (cl (numT n)).all fun c => decide (c ≠ 32) && (decide (c ≠ 10) && decide (c < 128))))
theorem num_all : valsL.all numChk = true := by decide +kernel
theorem num_chk {n : Int} (h : isValue n = true) : numChk n = true := List.all_eq_true.mp num_all n (vals_mem h)
theorem num_back {n : Int} (h : isValue n = true) : numOf (numT n) = some n := by
  have := num_chk h
  unfold numChk at this
  rw [Bool.and_eq_true] at this
  exact of_decide_eq_true this.1
/-- one or two figures, with or without a sign: a value -/
def figChk (l : List Nat) : Bool := match PySem.intText? ⟨l.toArray⟩, PySem.intText? ⟨(45 :: l).toArray⟩ with
  | some a, some b => isValue a && isValue b
  | _, _ => false
def figL : List (List Nat) := ((List.range 10).map fun a => [48 + a]) ++ (List.range 10).flatMap fun a => (List.range 10).map fun b => [48 + a, 48 + b]
theorem fig_all : figL.all figChk = true := by decide +kernel
theorem dig_lt {c : Nat} (h : isDig c = true) : ∃ a, a < 10 ∧ c = 48 + a := by
  have e : ∀ c ∈ cl "0123456789", c - 48 < 10 ∧ c = 48 + (c - 48) := by decide +kernel
  exact ⟨c - 48, e c (of_decide_eq_true h)⟩
theorem fig_mem {l : List Nat} (h0 : l.length ≠ 0) (h2 : ¬ 2 < l.length) (h : l.all isDig = true) : l ∈ figL := by
  match l, h0, h2, h with
  | [c], _, _, h =>
    simp only [List.all_cons, List.all_nil, Bool.and_true] at h
    obtain ⟨a, ha, rfl⟩ := dig_lt h
    exact List.mem_append.mpr (.inl (List.mem_map.mpr ⟨a, List.mem_range.mpr ha, rfl⟩))
  | [c, d], _, _, h =>
    simp only [List.all_cons, List.all_nil, Bool.and_true, Bool.and_eq_true] at h
    obtain ⟨a, ha, rfl⟩ := dig_lt h.1
    obtain ⟨b, hb, rfl⟩ := dig_lt h.2
    exact List.mem_append.mpr (.inr (List.mem_flatMap.mpr ⟨a, List.mem_range.mpr ha, List.mem_map.mpr ⟨b, List.mem_range.mpr hb, rfl⟩⟩))
  | [], h0, _, _ => exact absurd rfl h0
  | _ :: _ :: _ :: _, _, h2, _ => exact absurd (by simp) h2
theorem fig_int {z : Str} (h0 : (figs z).length ≠ 0) (h2 : ¬ 2 < (figs z).length) (h : (figs z).all isDig = true) : ∃ n, PySem.intText? z = some n ∧ isValue n = true := by
  have c := List.all_eq_true.mp fig_all _ (fig_mem h0 h2 h)
  unfold figChk at c
  have e : z = ⟨(figs z).toArray⟩ ∨ z = ⟨(45 :: figs z).toArray⟩ := by
    unfold figs
    split
    · rename_i e
      refine .inr (str_ext ?_)
      show cl z = 45 :: (cl z).drop 1
      have := List.take_append_drop 1 (cl z)
      rw [e] at this
      exact this.symm
    · exact .inl (str_ext rfl)
  split at c
  · rename_i a b ea eb
    rw [Bool.and_eq_true] at c
    rcases e with e | e
    · rw [e]; exact ⟨a, ea, c.1⟩
    · rw [e]; exact ⟨b, eb, c.2⟩
  · cases c
theorem numOf_val {z : Str} {n : Int} (h : numOf z = some n) : isValue n = true := by
  unfold numOf at h
  split at h
  · cases h
  · rename_i c
    simp only [not_or, Bool.not_eq_false] at c
    obtain ⟨m, e, v⟩ := fig_int c.1 c.2.1 c.2.2.2
    rw [e] at h
    cases h
    exact v
/-! ### words of a line -/
def tokD : PyData → Str
  | .str z => z
  | .int n => numT n
  | _ => ""
def Stm.toks (s : Stm) : List Str := s.word :: s.flats.map tokD
/-- no blank, no line feed, not empty, not long -/
def tokOk (z : Str) : Bool := decide (1 ≤ (cl z).length) && (decide ((cl z).length ≤ 6) && (cl z).all fun c => decide (c ≠ 32) && (decide (c ≠ 10) && decide (c < 128)))
theorem tok_word {z : Str} (h : isWord z = true) : tokOk z = true := by
  unfold isWord at h
  rw [Bool.and_eq_true, Bool.and_eq_true] at h
  unfold tokOk
  rw [cl_len, h.1.1, h.1.2]
  show (cl z).all _ = true
  refine List.all_eq_true.mpr fun c hc => ?_
  have a : ∀ c ∈ cl "abcdefghijklmnopqrstuvwxyz", (decide (c ≠ 32) && (decide (c ≠ 10) && decide (c < 128))) = true := by decide +kernel
  exact a c (of_decide_eq_true (List.all_eq_true.mp h.2 c hc))
theorem tok_num {n : Int} (h : isValue n = true) : tokOk (numT n) = true := by
  have c := num_chk h
  unfold numChk at c
  simp only [Bool.and_eq_true, decide_eq_true_eq] at c
  unfold tokOk
  simp only [Bool.and_eq_true, decide_eq_true_eq]
  obtain ⟨_, c2, c3, c4⟩ := c
  exact ⟨c3, by omega, c4⟩
theorem words_ok : ∀ z ∈ (["read", "set", "copy", "print", "say", "wait", "if", "same", "repeat", "stop"] : List Str), tokOk z = true ∧ z ≠ "else" := by decide +kernel
theorem word_mem (s : Stm) : s.word ∈ (["read", "set", "copy", "print", "say", "wait", "if", "same", "repeat", "stop"] : List Str) := by cases s <;> simp [Stm.word]
theorem toks_ok {s : Stm} (h : wl s = true) : ∀ z ∈ s.toks, tokOk z = true := by
  intro z hz
  rcases List.mem_cons.mp hz with e | hz
  · rw [e]; exact (words_ok _ (word_mem s)).1
  · obtain ⟨d, hd, e⟩ := List.mem_map.mp hz
    subst e
    have t : ∀ n : Int, 0 ≤ n → n ≤ 3 → isValue n = true := fun n a b => isValue_rep (by rw [decide_eq_true a, decide_eq_true b]; rfl)
    cases s <;> simp only [Stm.flats, List.mem_cons, List.not_mem_nil, or_false] at hd <;> simp only [wl, Bool.and_eq_true, decide_eq_true_eq] at h
    all_goals first
      | exact hd.elim
      | (rcases hd with rfl | rfl
         · exact tok_word h.1
         · first | exact tok_word h.2 | exact tok_num h.2)
      | (subst hd; first | exact tok_word h | exact tok_num h | exact tok_num (t _ h.1 h.2))
theorem toks_len (s : Stm) : s.toks.length ≤ 3 := by cases s <;> simp [Stm.toks, Stm.flats]
/-! ### lines -/
def line (i : Nat) (toks : List Str) : Str := spc i ++ Txt.join " " toks
def elseL (i : Nat) : Str := spc i ++ "else"
mutual
def lnS (i : Nat) : Stm → List Str
  | .ite v n a b => line i (Stm.ite v n a b).toks :: (lnB (i + 2) a ++ elseL i :: lnB (i + 2) b)
  | .same v u a b => line i (Stm.same v u a b).toks :: (lnB (i + 2) a ++ elseL i :: lnB (i + 2) b)
  | .rep n a => line i (Stm.rep n a).toks :: lnB (i + 2) a
  | .read v k => [line i (Stm.read v k).toks]
  | .set v n => [line i (Stm.set v n).toks]
  | .copy v u => [line i (Stm.copy v u).toks]
  | .print v => [line i (Stm.print v).toks]
  | .say n => [line i (Stm.say n).toks]
  | .wait => [line i Stm.wait.toks]
  | .stop => [line i Stm.stop.toks]
def lnB (i : Nat) : List Stm → List Str
  | [] => []
  | s :: r => lnS i s ++ lnB i r
end
/-- the lines behind the statement's own -/
def lnR (i : Nat) : List (List Stm) → List Str
  | [] => []
  | [a] => lnB (i + 2) a
  | a :: b :: _ => lnB (i + 2) a ++ elseL i :: lnB (i + 2) b
theorem lnS_eq (i : Nat) (s : Stm) : lnS i s = line i s.toks :: lnR i s.bodies := by cases s <;> simp [lnS, lnR, Stm.bodies]
theorem lnB_app (i : Nat) : ∀ (l m : List Stm), lnB i (l ++ m) = lnB i l ++ lnB i m
  | [], m => by simp [lnB]
  | s :: r, m => by rw [List.cons_append, lnB, lnB, lnB_app i r m, List.append_assoc]
theorem lnB_take {i : Nat} {l : List Stm} {j : Nat} {s : Stm} (h : l[j]? = some s) : lnB i (l.take (j + 1)) = lnB i (l.take j) ++ lnS i s := by
  rw [take_more h, lnB_app]
  simp [lnB]
theorem join_one (a : Str) : Txt.join " " [a] = a := by rw [TL.join_eq]; rfl
theorem join_cl : ∀ (a : Str) (r : List Str), ∃ m, cl (Txt.join " " (a :: r)) = cl a ++ m
  | a, [] => ⟨[], by rw [join_one, List.append_nil]⟩
  | a, b :: r => by
    refine ⟨[32] ++ TL.joinL [32] ((b :: r).map TL.tl), ?_⟩
    show TL.tl (Txt.join " " (a :: b :: r)) = _
    rw [TL.join_eq, TL.tl_join]
    rw [show TL.tl (" " : Str) = [32] from blank_list]
    rfl
/-- a line's text behind its blanks begins with a letter -/
theorem join_head {a : Str} {r : List Str} (h : tokOk a = true) : ∃ c m, cl (Txt.join " " (a :: r)) = c :: m ∧ c ≠ 32 := by
  obtain ⟨m, e⟩ := join_cl a r
  unfold tokOk at h
  simp only [Bool.and_eq_true, decide_eq_true_eq, List.all_eq_true] at h
  cases hc : cl a with
  | nil => rw [hc] at h; exact absurd h.1 (by simp)
  | cons c r' =>
    rw [hc] at e h
    exact ⟨c, r' ++ m, e, (h.2.2 c List.mem_cons_self).1⟩
theorem split_toks {toks : List Str} (hne : toks ≠ []) (h : ∀ z ∈ toks, tokOk z = true) : Txt.split (Txt.join " " toks) " " = toks := by
  refine TL.split_join (s := 32) (S := []) blank_list (by decide +kernel) hne fun p hp z => ?_
  have t := h p hp
  unfold tokOk at t
  simp only [Bool.and_eq_true, decide_eq_true_eq, List.all_eq_true] at t
  exact (t.2.2 32 z).1 rfl
theorem cl_spc (n : Nat) : cl (spc n) = List.replicate n 32 := rfl
theorem cut_pre (z : Str) (j : Nat) : cl (cutS z none (some (j : Int))) = (cl z).take j := by
  show ((cl z).drop _).take _ = _
  rw [HT.sIx_none, HT.sIx_nat, List.drop_zero, Nat.sub_zero, ← cl_len, ← List.take_eq_take_min]
theorem cut_suf (z : Str) (j : Nat) : cl (cutS z (some (j : Int)) none) = (cl z).drop j := by
  show ((cl z).drop _).take _ = _
  rw [HT.sIx_none, HT.sIx_nat, ← cl_len]
  by_cases h : j ≤ (cl z).length
  · rw [Nat.min_eq_left h, List.take_of_length_le (by rw [List.length_drop]; exact Nat.le_refl _)]
  · rw [Nat.min_eq_right (by omega), Nat.sub_self, List.take_zero, List.drop_of_length_le (by omega)]
theorem cut_front (i : Nat) (t : Str) : cutS (spc i ++ t) none (some (i : Int)) = spc i := by
  refine str_ext ((cut_pre _ _).trans ?_)
  rw [cl_app, List.take_append_of_le_length (by rw [cl_spc]; simp), cl_spc, List.take_replicate, Nat.min_self]
  rfl
theorem cut_back (i : Nat) (t : Str) : cutS (spc i ++ t) (some (i : Int)) none = t := by
  refine str_ext ((cut_suf _ _).trans ?_)
  rw [cl_app, List.drop_append_of_le_length (by rw [cl_spc]; simp), cl_spc, List.drop_replicate, Nat.sub_self]
  rfl
/-- a line of lesser indent does not begin with so many blanks -/
theorem cut_less {i j : Nat} {t : Str} {c : Nat} {m : List Nat} (h : cl t = c :: m) (hc : c ≠ 32) (hj : i < j) : cutS (spc i ++ t) none (some (j : Int)) ≠ spc j := by
  intro e
  have e1 := congrArg cl e
  rw [cut_pre, cl_app, cl_spc, cl_spc, h] at e1
  have e3 := congrArg (fun l => l[i]?) e1
  simp only [List.getElem?_take, if_pos hj, List.getElem?_replicate] at e3
  rw [List.getElem?_append_right (by simp)] at e3
  simp at e3
  exact hc e3
theorem spc_inj {i : Nat} {a b : Str} (h : spc i ++ a = spc i ++ b) : a = b := by
  have e := congrArg cl h
  rw [cl_app, cl_app] at e
  exact str_ext (List.append_cancel_left e)
theorem line_not_else {i : Nat} {s : Stm} (h : wl s = true) : line i s.toks ≠ elseL i := by
  intro e
  have e1 := spc_inj e
  have e2 := split_toks (toks := s.toks) (by simp [Stm.toks]) (toks_ok h)
  have e3 := split_toks (toks := ["else"]) (by simp) (by decide +kernel)
  rw [join_one] at e3
  rw [e1, e3] at e2
  have e4 : ("else" : Str) = s.word := by
    unfold Stm.toks at e2
    injection e2
  exact (words_ok _ (word_mem s)).2 e4.symm
theorem else_cl : ∃ c m, cl "else" = c :: m ∧ c ≠ 32 := ⟨101, [108, 115, 101], by decide +kernel, by decide⟩
/-! ### where a body ends -/
def Stops (i : Nat) (rest : List Str) : Prop := rest = [] ∨ ∃ z r, rest = z :: r ∧ (cutS z none (some (i : Int)) ≠ spc i ∨ z = elseL i)
theorem stops_else (i : Nat) (r : List Str) : Stops (i + 2) (elseL i :: r) := by
  obtain ⟨c, m, h, hc⟩ := else_cl
  exact .inr ⟨_, _, rfl, .inl (cut_less h hc (by omega))⟩
theorem head_line {s : Stm} (h : wl s = true) : ∃ c m, cl (Txt.join " " s.toks) = c :: m ∧ c ≠ 32 := join_head (toks_ok h _ (by simp [Stm.toks]))
theorem stops_body {i : Nat} {l : List Stm} {rest : List Str} (hw : wB l = true) (h : Stops i rest) : Stops (i + 2) (lnB i l ++ rest) := by
  cases l with
  | nil =>
    rw [lnB, List.nil_append]
    rcases h with h | ⟨z, r, rfl, h | h⟩
    · exact .inl h
    · refine .inr ⟨z, r, rfl, .inl fun e => h ?_⟩
      -- so many blanks are fewer blanks too
      have e1 : (cl z).take (i + 2) = List.replicate (i + 2) 32 := by
        have e2 := congrArg cl e
        rwa [cut_pre, cl_spc] at e2
      refine str_ext ((cut_pre _ _).trans ?_)
      have e2 := congrArg (List.take i) e1
      rw [List.take_take, Nat.min_eq_left (by omega), List.take_replicate, Nat.min_eq_left (by omega)] at e2
      exact e2
    · rw [h]
      exact stops_else i r
  | cons s r =>
    rw [lnB, lnS_eq, List.cons_append, List.cons_append]
    have hs : wl s = true := wl_of (wB_all hw s List.mem_cons_self)
    obtain ⟨c, m, h, hc⟩ := head_line hs
    exact .inr ⟨_, _, rfl, .inl (cut_less h hc (by omega))⟩
/-! ### sizes -/
theorem joinL_len (S : List Nat) : ∀ ps : List (List Nat), (TL.joinL S ps).length ≤ (ps.map List.length).sum + ps.length * S.length
  | [] => by simp [TL.joinL]
  | [p] => by simp [TL.joinL]
  | p :: q :: r => by
    have ih := joinL_len S (q :: r)
    show (p ++ (S ++ TL.joinL S (q :: r))).length ≤ _
    rw [List.length_append, List.length_append, List.map_cons, List.sum_cons, List.length_cons, Nat.add_mul]
    omega
theorem toks_sum {s : Stm} (h : wl s = true) : (s.toks.map (·.length)).sum ≤ 18 := by
  have e : ∀ z ∈ s.toks, z.length ≤ 6 := fun z hz => by
    have t := toks_ok h z hz
    unfold tokOk at t
    simp only [Bool.and_eq_true, decide_eq_true_eq, cl_len] at t
    exact t.2.1
  have g : ∀ l : List Str, (∀ z ∈ l, z.length ≤ 6) → (l.map (·.length)).sum ≤ 6 * l.length := by
    intro l
    induction l with
    | nil => intro _; simp
    | cons a r ih =>
      intro hl
      have h1 := hl a List.mem_cons_self
      have h2 := ih fun z hz => hl z (List.mem_cons_of_mem _ hz)
      rw [List.map_cons, List.sum_cons, List.length_cons]
      omega
  have := g _ e
  have := toks_len s
  omega
theorem join_len (parts : List Str) : (Txt.join " " parts).length ≤ (parts.map (·.length)).sum + parts.length := by
  rw [← cl_len, show cl (Txt.join " " parts) = TL.joinL (TL.tl " ") (parts.map TL.tl) from by
    show TL.tl (Txt.join " " parts) = _
    rw [TL.join_eq, TL.tl_join]]
  refine Nat.le_trans (joinL_len _ _) ?_
  rw [show TL.tl (" " : Str) = [32] from blank_list, List.map_map, List.length_map]
  have e : parts.map (List.length ∘ TL.tl) = parts.map (·.length) := List.map_congr_left fun z _ => cl_len z
  rw [e]
  simp
theorem line_len {i : Nat} {s : Stm} (h : wl s = true) : (line i s.toks).length ≤ i + 21 := by
  have h1 := toks_sum h
  have h2 := toks_len s
  have h3 := join_len s.toks
  unfold line
  rw [Str.length_append, spc_len]
  omega
theorem else_len (i : Nat) : (elseL i).length = i + 4 := by
  unfold elseL
  rw [Str.length_append, spc_len]
  have : ("else" : Str).length = 4 := by decide +kernel
  omega
mutual
theorem lnS_cnt (i : Nat) : ∀ s : Stm, (lnS i s).length ≤ 2 * cS s
  | .read .. => by simp [lnS, cS]
  | .set .. => by simp [lnS, cS]
  | .copy .. => by simp [lnS, cS]
  | .print .. => by simp [lnS, cS]
  | .say .. => by simp [lnS, cS]
  | .wait => by simp [lnS, cS]
  | .stop => by simp [lnS, cS]
  | .ite v n a b => by
    have h1 := lnB_cnt (i + 2) a
    have h2 := lnB_cnt (i + 2) b
    simp only [lnS, cS, List.length_cons, List.length_append]
    omega
  | .same v u a b => by
    have h1 := lnB_cnt (i + 2) a
    have h2 := lnB_cnt (i + 2) b
    simp only [lnS, cS, List.length_cons, List.length_append]
    omega
  | .rep n a => by
    have h1 := lnB_cnt (i + 2) a
    simp only [lnS, cS, List.length_cons]
    omega
theorem lnB_cnt (i : Nat) : ∀ l : List Stm, (lnB i l).length ≤ 2 * cB l
  | [] => by simp [lnB]
  | s :: r => by
    have h1 := lnS_cnt i s
    have h2 := lnB_cnt i r
    simp only [lnB, cB, List.length_append]
    omega
end
/-! ### a statement's form without its bodies' signs; its items in two parts -/
def fform (s : Stm) : Str := Txt.replace s.form "b" ""
theorem fform_len (s : Stm) : (fform s).length = s.flats.length := by cases s <;> simp only [fform, Stm.form, Stm.flats, List.length_cons, List.length_nil] <;> decide +kernel
theorem form_small (s : Stm) : s.form.length + (s.form.length + 1) * ("" : Str).length ≤ 16777216 := by cases s <;> simp only [Stm.form] <;> decide +kernel
theorem flats_len (s : Stm) : s.flats.length ≤ 2 := by cases s <;> simp [Stm.flats]
theorem DpAll.app_inv {K : PySem.W.Frag} {H : Hp} : ∀ {ds es : List PyData} {vs : List V}, DpAll K H vs (ds ++ es) → ∃ us ws, vs = us ++ ws ∧ DpAll K H us ds ∧ DpAll K H ws es
  | [], es, vs, h => ⟨[], vs, rfl, .nil, h⟩
  | d :: ds, es, vs, h => by
    obtain ⟨v, r, rfl, h1, h2⟩ := DpAll.cons_inv h
    obtain ⟨us, ws, rfl, h3, h4⟩ := DpAll.app_inv h2
    exact ⟨v :: us, ws, rfl, .cons h1 h3, h4⟩
theorem cut_mid {v : V} {us ws : List V} {k : Nat} (h : us.length = k) : cutV (v :: (us ++ ws)) (some 1) (some ((k : Int) + 1)) = us := by
  subst h
  unfold cutV
  rw [show ((us.length : Int) + 1) = ((us.length + 1 : Nat) : Int) from rfl, HT.sIx_nat, show (1 : Int) = ((1 : Nat) : Int) from rfl, HT.sIx_nat, List.length_cons, List.length_append, Nat.min_eq_left (by omega), Nat.min_eq_left (by omega)]
  show (us ++ ws).take _ = us
  rw [Nat.add_sub_cancel, List.take_append_of_le_length (Nat.le_refl _), List.take_length]
theorem cut_end {v : V} {us ws : List V} {k : Nat} (h : us.length = k) : cutV (v :: (us ++ ws)) (some ((k : Int) + 1)) none = ws := by
  subst h
  unfold cutV
  rw [show ((us.length : Int) + 1) = ((us.length + 1 : Nat) : Int) from rfl, HT.sIx_nat, HT.sIx_none, List.length_cons, List.length_append, Nat.min_eq_left (by omega)]
  show ((us ++ ws).drop us.length).take _ = ws
  rw [List.drop_append_of_le_length (Nat.le_refl _), List.drop_length, List.nil_append, List.take_of_length_le (by omega)]
theorem not_all {v : V} {xs : List V} {k : Nat} {o : Option Int} : ¬ (HT.sIx (v :: xs).length 0 (some ((k : Int) + 1)) = 0 ∧ HT.sIx (v :: xs).length (v :: xs).length o = (v :: xs).length) := by
  rw [show ((k : Int) + 1) = ((k + 1 : Nat) : Int) from rfl, HT.sIx_nat, List.length_cons]
  intro h
  have := h.1
  omega
theorem bodies_cases (s : Stm) : s.bodies = [] ∨ (∃ a, s.bodies = [a]) ∨ ∃ a b, s.bodies = [a, b] := by cases s <;> simp [Stm.bodies]
theorem log_small {i : Int} (h : isValue i = true) : i.natAbs.log2 < 1920 := by
  unfold isValue at h
  rw [Bool.and_eq_true, decide_eq_true_eq, decide_eq_true_eq] at h
  by_cases z : i.natAbs = 0
  · rw [z]; decide
  · exact (Nat.log2_lt z).mpr (Nat.lt_of_le_of_lt (show i.natAbs ≤ 99 by omega) (by decide))
/-- what stands in a statement itself: a word, or a value -/
theorem flat_ok {s : Stm} (h : wl s = true) {d : PyData} (hd : d ∈ s.flats) : (∃ z, d = .str z ∧ isWord z = true) ∨ ∃ n, d = .int n ∧ isValue n = true := by
  have t : ∀ n : Int, 0 ≤ n → n ≤ 3 → isValue n = true := fun n a b => isValue_rep (by rw [decide_eq_true a, decide_eq_true b]; rfl)
  cases s <;> simp only [Stm.flats, List.mem_cons, List.not_mem_nil, or_false] at hd <;> simp only [wl, Bool.and_eq_true, decide_eq_true_eq] at h
  all_goals first
    | exact hd.elim
    | (rcases hd with rfl | rfl
       · exact .inl ⟨_, rfl, h.1⟩
       · first | exact .inl ⟨_, rfl, h.2⟩ | exact .inr ⟨_, rfl, h.2⟩)
    | (subst hd; first | exact .inl ⟨_, rfl, h⟩ | exact .inr ⟨_, rfl, h⟩ | exact .inr ⟨_, rfl, t _ h.1 h.2⟩)
theorem map_at {α β : Type} (l : List α) (f : α → β) : (List.range l.length).filterMap (fun i => (l[i]?).map f) = l.map f := by
  have := congrArg (List.map f) (some_range l)
  rw [List.map_filterMap] at this
  exact this
theorem blank_one : (" " : Str).length = 1 := by decide +kernel
theorem sm_none {H H' : Hp} {p : Addr} (e : Same H H') (h : H' p = none) : H p = none := by
  cases z : H p with
  | none => rfl
  | some o => rw [e p o z] at h; cases h
theorem join_blanks : ∀ n : Nat, Txt.join "" (List.replicate n " ") = spc n := by
  have g : ∀ n : Nat, TL.joinL [] (List.replicate n [32]) = List.replicate n 32 := by
    intro n
    induction n with
    | zero => rfl
    | succ n ih =>
      cases n with
      | zero => rfl
      | succ n =>
        show [32] ++ ([] ++ TL.joinL [] (List.replicate (n + 1) [32])) = _
        rw [ih]
        rfl
  intro n
  refine str_ext ?_
  show TL.tl (Txt.join "" (List.replicate n " ")) = _
  rw [TL.join_eq, TL.tl_join, List.map_replicate, show TL.tl (" " : Str) = [32] from blank_list, show TL.tl ("" : Str) = [] from by decide +kernel, g]
  rfl
theorem blanks_sum (n : Nat) : ((List.replicate n (" " : Str)).map (·.length)).sum = n := by
  rw [List.map_replicate, blank_one, List.sum_replicate_nat]
  omega
/-- the lines of the first bodies -/
theorem lnR_next {i : Nat} {s : Stm} {j : Nat} {b : List Stm} (h : s.bodies[j]? = some b) : lnR i (s.bodies.take (j + 1)) = lnR i (s.bodies.take j) ++ (if j = 1 then [elseL i] else []) ++ lnB (i + 2) b := by
  rcases bodies_cases s with h0 | ⟨a, h0⟩ | ⟨a, c, h0⟩ <;> rw [h0] at h ⊢
  · simp at h
  · match j, h with
    | 0, h => cases h; simp [lnR]
    | j + 1, h => simp at h
  · match j, h with
    | 0, h => cases h; simp [lnR]
    | 1, h => cases h; simp [lnR]
    | j + 2, h => simp at h
end RM

set_option Elab.async false
set_option linter.all false
set_option maxRecDepth 100000
set_option maxHeartbeats 2000000
namespace RM
open PySem PySem.Spec PyProof.Rows L2
/-! ### own exception classes: what the head tells -/
/-- an exception class with its own __init__ -/
def oexB (K : PySem.W.Frag) (C : Addr) : Bool :=
  (match K.lookup C with
    | some ⟨.type t, _, .cls cd, sl⟩ => (match cd.mro, sl.toList with
      | .ref c :: bm, [_, _, _, _, some (.builtin n), _] => decide (t = "type") && (decide (c = C) && (decide (n = "ValueError.__new__") && ((!cd.hasDel) && (cd.hasDict && PySem.HandSPX.refsVE bm))))
      | _, _ => false)
    | _ => false) &&
  (He.eqO (PySem.W.findIn K (.ref C) "__setattr__") (some (some (.builtin "object.__setattr__"))) && (decide (PySem.W.subIn K (.ref C) (.type "BaseException") = some true) &&
    (decide (PySem.W.typeIn K (.ref C) = some (.type "type")) && PySem.W.keepIn K (.ref C))))
theorem oexB_ok {K : PySem.W.Frag} {C : Addr} (h : oexB K C = true) : OexC K C := by
  obtain ⟨h0, h⟩ := He.ba h
  obtain ⟨h1, h⟩ := He.ba h
  obtain ⟨h2, h⟩ := He.ba h
  obtain ⟨h3, h4⟩ := He.ba h
  refine ⟨?_, He.eqO_ok h1, of_decide_eq_true h2, of_decide_eq_true h3, h4⟩
  split at h0
  case h_2 => cases h0
  case h_1 t dd cd sl lk =>
    split at h0
    case h_2 => cases h0
    case h_1 c bm k0 k1 k2 k3 n k5 hm hsl =>
      obtain ⟨q1, h0⟩ := He.ba h0
      obtain ⟨q2, h0⟩ := He.ba h0
      obtain ⟨q3, h0⟩ := He.ba h0
      obtain ⟨q4, h0⟩ := He.ba h0
      obtain ⟨q5, q6⟩ := He.ba h0
      have e1 := of_decide_eq_true q1
      have e2 := of_decide_eq_true q2
      have e3 := of_decide_eq_true q3
      have e4 : cd.hasDel = false := by simpa using q4
      obtain ⟨l⟩ := sl
      have e6 : l = [k0, k1, k2, k3, some (.builtin n), k5] := hsl
      cases cd
      simp only at hm e4 q5
      subst hm e1 e2 e3 e4 q5 e6
      exact ⟨_, _, _, _, _, _, _, _, _, _, _, _, _, _, _, lk, q6⟩
/-- X(), X an own exception class without own __init__ -/
theorem pmk_exc0 {X : Cx} {x : Str} {p pos : Pos} (q : PySem.W.excIn X.K (He.ga X.K x) He.veBase "ValueError.__new__" = true ∧ PySem.W.keepIn X.K (.ref (He.ga X.K x)) = true ∧ PySem.W.subIn X.K (.ref (He.ga X.K x)) (.type "BaseException") = some true ∧
      PySem.W.typeIn X.K (.ref (He.ga X.K x)) = some (.type "type")) (gC : X.mg x = some (.ref (He.ga X.K x))) (hg : Gl X x := by rfl) (hdb : (x == ("__debug__" : Str)) = false := by decide) :
    PMk X (.Call (.Name x p) [] [] pos) (fun _ H Q => Q (.ref (He.ga X.K x)) none H) := by
  obtain ⟨q1, q2, q3, q4⟩ := q
  intro pins s σ H Q I h
  refine wpAny_Call_Name_kw (ld_glob I hg gC ?_ hdb)
  refine PySem.W.callWith_K0 I.kIn q2 ?_
  obtain ⟨bm, N, nm, qn, bs, hd, sn, sub, ab, col, dd, k0, k1, k2, k3, k5, mN, hC, hN, hni, T⟩ := exc_obj I.kIn q1
  exact wpAny_call_exc_subT F.excBase_ValueError T hC hN hni (fun h' e hm => mk_of I hm (raises_own q3 q4) h (I.hok.gone hm.new)) (by show 0 ≤ sizeLine; exact Nat.zero_le _)
/-! ### defs that let exceptions out -/
section
variable {P : Program} {w : World} {K : PySem.W.Frag} {mg : Str → Option Value} {base : Heap} {k : Nat} {x m : Str} {C : Addr} {sp : Sp}
/-- the body's form -/
def BodyX (P : Program) (w : World) (K : PySem.W.Frag) (mg : Str → Option Value) (base : Heap) (N : List Str) (qual : Str) (st : Stmt) (f : Addr) (k : Nat) (sp : Sp) : Prop :=
  ∀ (cdv : Value) (A : Around) (outer : List Env) (s : Shared) (H : Hp) (vs : List V) (Q : VK) (E : XK), Room k (A.deeper (envOfC qual (defScope st) s.heap.objs.size f cdv)) → sp vs H Q E →
    ∃ t, PSs (cxOf (L2.CX P w) P w K mg base N qual (defScope st) f cdv A outer s H E) (defBody st) t ∧ t { nx := fun _ H' => Q .non H', rt := Q } (start N vs) H
theorem cal_X {st : Stmt} {f : Addr} {N ps : List Str} (F : ∃ fd, FunD K x x (defArgs st) (defBody st) (defScope st) [] [] f fd) (hm : mg x = some (.ref f)) (S : FnScope N ps (defScope st))
    (hb : ∀ (kV doc pm : Value) (an : Option Addr) (cdv ct : Value) (us : List Value), us.length = ps.length → bindArgs (PySem.W.fnOf x x (defArgs st) (defBody st) (defScope st) .none kV doc pm an cdv ct) ⟨us, []⟩ = pure (ps.zip us))
    (len : ∀ vs H Q E, sp vs H Q E → vs.length = ps.length) (h : BodyX P w K mg base N x st f k sp) : Cal P w K mg base (L2.CX P w) (k + 1) x sp :=
  let ⟨fd, F⟩ := F
  ⟨f, fd, ps, F.ok S len h, hm, F.kp, F.bindsN hb⟩
theorem mak_X {qual : Str} {st : Stmt} {f : Addr} {N ps : List Str} (F : ∃ fd, FunD K "__init__" qual (defArgs st) (defBody st) (defScope st) [] [] f fd) (M : Mk K C f) (hm : mg x = some (.ref C)) (S : FnScope N ps (defScope st))
    (hb : ∀ (kV doc pm : Value) (an : Option Addr) (cdv ct : Value) (us : List Value), us.length = ps.length → bindArgs (PySem.W.fnOf "__init__" qual (defArgs st) (defBody st) (defScope st) .none kV doc pm an cdv ct) ⟨us, []⟩ = pure (ps.zip us))
    (len : ∀ vs H Q E, sp vs H Q E → vs.length = ps.length) (h : BodyX P w K mg base N qual st f k sp) : Mak P w K mg base (L2.CX P w) (k + 1) x C sp :=
  let ⟨fd, F⟩ := F
  ⟨f, fd, ps, M, F.ok S len h, hm, F.bindsN hb⟩
theorem calX_never {x : Str} {st : Stmt} {f : Addr} {ps : List Str} {sp : Sp} {k : Nat} (F : ∃ fd, FunD K x x (defArgs st) (defBody st) (defScope st) [] [] f fd) (hm : mg x = some (.ref f))
    (hb : ∀ (kV doc pm : Value) (an : Option Addr) (cdv ct : Value) (us : List Value), us.length = ps.length → bindArgs (PySem.W.fnOf x x (defArgs st) (defBody st) (defScope st) .none kV doc pm an cdv ct) ⟨us, []⟩ = pure (ps.zip us))
    (no : ∀ vs H Q E, ¬ sp vs H Q E) : Cal P w K mg base (L2.CX P w) k x sp :=
  let ⟨fd, F⟩ := F
  ⟨f, fd, ps, ⟨fun vs H Q E h => absurd h (no vs H Q E), fun A outer s H args us vs Q E _ _ _ _ h => absurd h (no vs H Q E)⟩, hm, F.kp, F.bindsN hb⟩
/-- an own exception class: its name, its __init__ -/
def Exo (P : Program) (w : World) (K : PySem.W.Frag) (mg : Str → Option Value) (base : Heap) (k : Nat) (x : Str) (C : Addr) (sp : Sp) : Prop :=
  ∃ (f : Addr) (fd : FuncData) (ps : List Str), OexC K C ∧ Meth K C "__init__" f ∧ FnOk P w K mg base CX0 k f fd ps sp ∧ mg x = some (.ref C) ∧ Binds K fd ps []
end
section
variable {X : Cx} {W : WX} {k j : Nat} {C : Addr} {x m : Str} {sp : Sp} {E : L2.St → XK} {p pos apos : Pos} {e o : Expr} {es : List Expr} {ta : TE} {t : TA}
/-- f(e, ..), f of a promise with exceptions -/
theorem pcX (tk : Takes X W) (c : Cal X.prog X.w X.K X.mg X.base (L2.CX X.prog X.w) k x sp) (hr : Room j X.A) (ha : PA X (e :: es) t) (hk : k ≤ j := by omega) (hg : Gl X x := by rfl)
    (hpl : (backTo pos (starEach es X.env)).any (·.1) = false := by rfl) (he : starEach (e :: es) X.env = (false, eval e X.env) :: starEach es X.env := by rfl) (hdb : (x == ("__debug__" : Str)) = false := by decide) :
    PE X (.Call (.Name x p) (e :: es) [] pos) (tCallS sp (WE W) t) := by
  obtain ⟨f, fd, ps, F, hm, kp, b⟩ := c
  exact pe_callS F (hr.mono hk) hg hm kp b (fun σ => passAt tk σ) ha hdb he hpl
/-- C(e, ..): a new instance; E at the slots -/
def tMakeS (C : Addr) (sp : Sp) (E : L2.St → XK) (t : TA) : TE := fun σ H Q => t σ H fun vs H1 => ∀ x dx, H1 x = none → H1 dx = none → dx ≠ x →
  sp (.ref x :: vs) (upd (upd H1 dx (.own x)) x (.ins C dx [])) (fun v H2 => v = .non ∧ Q (.ref x) H2) (E σ)
theorem pmkX (tk : Takes X W) (c : Mak X.prog X.w X.K X.mg X.base (L2.CX X.prog X.w) k x C sp) (hr : Room j X.A) (ha : PA X (e :: es) t) (hk : k + 1 ≤ j := by omega) (hg : Gl X x := by rfl)
    (hpl : (backTo pos (starEach es X.env)).any (·.1) = false := by rfl) (he : starEach (e :: es) X.env = (false, eval e X.env) :: starEach es X.env := by rfl) (hdb : (x == ("__debug__" : Str)) = false := by decide) :
    PE X (.Call (.Name x p) (e :: es) [] pos) (tMakeS C sp (WE W) t) := by
  obtain ⟨f, fd, ps, M, F, hm, b⟩ := c
  constructor
  intro pins s σ H Q I h
  refine wpAny_Call_Name_kw (ld_glob I hg hm ?_ hdb)
  refine PySem.W.callWith_K (h₀ := X.base) I.ok.mod.kin M.kp (thn (ha.run pos pins s σ H _ I h) ?_) he hpl
  rintro us s1 ⟨vs, H1, I1, r, q⟩
  refine ⟨I1.kIn, ?_⟩
  have f1 : H1 (s1.heap.objs.size + 1) = none := I1.hok.fresh (Nat.le_succ _)
  have f2 : H1 s1.heap.objs.size = none := I1.hok.fresh (Nat.le_refl _)
  have q1 := q _ _ f1 f2 (Nat.ne_of_lt (Nat.lt_succ_self _))
  have J := Inv.made (C := C) I1
  have rr : Vals (V.ref (s1.heap.objs.size + 1) :: vs) (Value.ref (s1.heap.objs.size + 1) :: us) := .cons rfl r
  have ll : (Value.ref (s1.heap.objs.size + 1) :: us).length = ps.length := rr.length.symm.trans (F.len _ _ _ _ q1)
  have bb := b _ (Value.ref (s1.heap.objs.size + 1) :: us) J.kIn (by rw [List.append_nil]; exact ll)
  rw [List.append_nil] at bb
  refine wpAny_call (make_map (f := f) I1.kIn M.makes M.init (beq_iff_eq.mp M.fn) (codeAny_mono (F.run _ X.stack _ _ ⟨Value.ref (s1.heap.objs.size + 1) :: us, []⟩ _ _ _ _ ((hr.mono hk).make C us []) (J.env0.make C us []) bb rr q1) ?_))
  intro r2 s2 z
  match r2, z with
  | .error y, z => exact passAt tk σ pins _ _ y s2 J z
  | .ok (.ret y), z =>
    obtain ⟨v, H2, J2, rv, rfl, q2⟩ := J.after z
    exact ⟨rv, V.ref (s1.heap.objs.size + 1), H2, J2, rfl, q2⟩
/-- raise C(e, ..), C with its own __init__ -/
theorem ps_raiseX {pos2 : Pos} (tk : Takes X W) (c : Exo X.prog X.w X.K X.mg X.base k x C sp) (hr : Room j X.A) (ha : PA X (e :: es) t) (hc : X.calm = true := by rfl) (hk : k + 1 ≤ j := by omega) (hg : Gl X x := by rfl)
    (hpl : (backTo pos (starEach es X.env)).any (·.1) = false := by rfl) (he : starEach (e :: es) X.env = (false, eval e X.env) :: starEach es X.env := by rfl) (hdb : (x == ("__debug__" : Str)) = false := by decide) :
    PS X (.Raise (some (.Call (.Name x p) (e :: es) [] pos)) none pos2) (fun _ σ H => tMkO C sp [] t σ H fun cls d H' => W cls d σ H') := by
  obtain ⟨f, fd, ps, T, M, F, hm, b⟩ := c
  exact ps_raise hc tk (pmk_oex T M.at_ (beq_iff_eq.mp M.fn) F (hr.mono hk) b .nil pass0 hg hm ha hdb he hpl)
end
/-! ### except clauses, each with or without a name -/
/-- an exception stands caught at the foot of the try -/
def Caught (X : Cx) (pins : List (Addr × Obj)) (σ : L2.St) (H : Hp) (cls : Value) (d : Option Addr) (a : Addr) (s : Shared) : Prop :=
  H a = none ∧ ∃ (B : Heap) (sI : Shared), Inv X pins σ H sI ∧ (∀ b o, sI.heap.get? b = some o → b ∉ frs X.stack → B.get? b = some o) ∧ sI.heap.UpToSlots s.heap ∧ HandSPX.FlyingZ B X.stack a (Zc cls d) s.heap ∧ s.os = sI.os ∧ AllBare s.gens
section
variable {X : Cx} {pins : List (Addr × Obj)} {σ : L2.St} {H : Hp} {cls : Value} {d : Option Addr} {a : Addr} {s : Shared}
theorem Caught.inv (c : Caught X pins σ H cls d a s) : Inv X pins σ H s :=
  let ⟨_, _, _, I, nb, up, fl, os, ag⟩ := c; I.landed nb fl.1 up os ag
theorem Caught.obj (c : Caught X pins σ H cls d a s) : ∃ oe vs, s.heap.get? a = some oe ∧ Zc cls d oe ∧ oe.data = .fields vs :=
  let ⟨_, _, _, _, _, _, fl, _, _⟩ := c; fl.there
theorem Caught.far (c : Caught X pins σ H cls d a s) : a ∉ frs X.stack := by
  obtain ⟨_, _, _, _, _, _, fl, _, _⟩ := c
  obtain ⟨oe, vs, e, _, dd⟩ := fl.there
  intro hm
  obtain ⟨_, o, e', hnf⟩ := fl.2.2.1.mem hm
  rw [e] at e'
  exact hnf vs (Option.some.inj e' ▸ dd)
theorem Caught.suite (c : Caught X pins σ H cls d a s) (hs : X.stack = X.env :: X.outer) (hf : X.env.frame = some X.env.locals) :
    ∃ oe, (Zc cls d oe ∧ ∃ vs, oe.data = .fields vs) ∧ s.heap.get? a = some oe ∧ Inv (X.suite a ((a, oe) :: (X.pn ++ pins))) [] σ H s := by
  obtain ⟨oe, vs, e, z, dd⟩ := c.obj
  have nf := c.far
  rw [hs] at nf
  refine ⟨oe, ⟨z, vs, dd⟩, e, c.inv.suite e dd c.1 (fun h => nf ?_) fun h => nf ?_⟩
  · exact List.mem_filterMap.mpr ⟨X.env, List.mem_cons_self, by rw [hf, h]⟩
  · obtain ⟨u, hu, q⟩ := List.mem_filterMap.mp h
    exact List.mem_filterMap.mpr ⟨u, List.mem_cons_of_mem _ hu, q⟩
theorem Caught.again {M : Model} {A : Around} {Q : Unit → Shared → Prop} {E : Value → Shared → Prop} (c : Caught X pins σ H cls d a s) (h : ∀ s', Caught X pins σ H cls d a s' → Q () s') : wpAny M A (setFlight (.ref a) none) Q E s := by
  obtain ⟨na, B, sI, I, nb, up, fl, os, ag⟩ := c
  exact HandSPX.lands_againZ fl fun h' fl' up' => h _ ⟨na, B, sI, I, nb, up.trans up', fl', os, ag⟩
/-- what a row of clauses wishes, read at the ends -/
def Hds (X : Cx) (hds : List ExceptHandler) (wv : Ends → WX) : Prop :=
  ∀ (pins : List (Addr × Obj)) (D : Ends) (σ : L2.St) (H : Hp) (cls : Value) (d : Option Addr) (a : Addr) (s : Shared), Caught X pins σ H cls d a s → wv D cls d σ H → wpAny (model X.prog X.w) X.A (handleBy (.ref a) X.env hds) (SP X pins D) X.xe s
theorem hds_nil {W : WX} (tk : Takes X W) (hf : X.env.frame = some X.env.locals := by rfl) : Hds X [] (fun _ => W) := by
  intro pins D σ H cls d a s c w
  refine wpAny_handleBy_nil ?_
  obtain ⟨na, B, sI, I, nb, up, fl, os, ag⟩ := c
  obtain ⟨_, _, _, oe, vs, T, _, _, e, _, dd, h1, _⟩ := id fl
  unfold PySem.passOn
  refine wpAny_bind (wpAny_field e dd h1 ?_)
  rw [if_neg (by simp)]
  have out : wpAny (model X.prog X.w) X.A (setFlight (.ref a) X.env.frame) (fun _ s' => wpAny (model X.prog X.w) X.A (throw (.ref a) : Sem Flow) (SP X pins D) X.xe s') X.xe s := by
    rw [hf]
    exact HandSPX.setFlight_upZ fl fun h' hh up' => wpAny_throw (tk _ _ ⟨a, B, sI, pins, σ, H, cls, d, rfl, I, nb, up.trans up', .inr (.inr hh), na, os, ag, w⟩)
  first
    | exact wpAny_bind (wpAny_pure (wpAny_bind out))
    | exact wpAny_bind out
/-- the clause's class is looked at -/
theorem hd_test {x : Str} {np : Pos} {c : Value} {b : Bool} {Q : Bool → Shared → Prop} {E : Value → Shared → Prop} {R : Result → Shared → Prop} {pos' : Pos} (hc : Names X x c) (k : Caught X pins σ H cls d a s) (hs : X.stack = X.env :: X.outer) (hf : X.env.frame = some X.env.locals)
    (hb : PySem.W.exmOne X.K cls c = some b) (h : R (.ok (if b = true then .brk else .next)) s) : codeAny (model X.prog X.w) (X.A.mark (some (.ref a))) (.handlers (.ref a) [.ExceptHandler (some (.Name x np)) none [] pos'] X.env) R s := by
  obtain ⟨oe, ⟨z, _⟩, e, S⟩ := k.suite hs hf
  refine codeAny_handlers_test ?_
  have tyl : PySem.W.Looks (model X.prog X.w) s.heap (typeOf (.ref a)) cls := fun A Q E s k q => wpAny_typeOf_ref (k _ _ e) (by rw [z.1]; exact q)
  have fit := (PySem.W.exm_one (M := model X.prog X.w) k.inv.kIn tyl hb).here (A := X.A.mark (some (.ref a))) (E := notedBy (model X.prog X.w) (X.A.mark (some (.ref a))) X.env fun x s₁ => R (.error x) s₁)
    (Q := fun b s₂ => R (.ok (if b then .brk else .next)) s₂) (s := s) h
  obtain ⟨hg, hd, hm | ⟨hm, hv, hn⟩⟩ := hc
  · exact ld_glob S hg hm fit hd
  · exact ld_blt S hg hm hv fit hn hd
/-- except x: suite -/
def wCl (K : PySem.W.Frag) (c : Value) (ts : Addr → Value → Option Addr → L2.TS) (wr : Ends → WX) : Ends → WX := fun D cls d σ H =>
  ∃ b, PySem.W.exmOne K cls c = some b ∧ (if b = true then ∀ a, H a = none → ts a cls d D σ H else wr D cls d σ H)
/-- the slot of the clause's name is emptied behind -/
def Ends.gone (i : Nat) (D : Ends) : Ends := { nx := fun σ H => D.nx (σ.set i none) H, rt := D.rt, bk := fun σ H => D.bk (σ.set i none) H, ct := fun σ H => D.ct (σ.set i none) H }
/-- except x as n: suite -/
def wClA (K : PySem.W.Frag) (c : Value) (i : Nat) (ts : Addr → Value → Option Addr → L2.TS) (wr : Ends → WX) : Ends → WX := fun D cls d σ H =>
  ∃ b, PySem.W.exmOne K cls c = some b ∧ (if b = true then ∀ a, H a = none → ts a cls d (Ends.gone i D) (σ.set i (some (.ref a))) H else wr D cls d σ H)
theorem hds_cl {x : Str} {np pos' : Pos} {c : Value} {ts : Addr → Value → Option Addr → L2.TS} {b₀ : Stmt} {su : List Stmt} {hds : List ExceptHandler} {wr : Ends → WX} (hc : Names X x c)
    (hsu : ∀ (a : Addr) (oe : Obj) (cls : Value) (d : Option Addr) (pn : List (Addr × Obj)), Zc cls d oe → (∃ vs, oe.data = .fields vs) → PSs (X.suite a ((a, oe) :: pn)) (b₀ :: su) (ts a cls d)) (r : Hds X hds wr)
    (ok : X.Ok → True := fun _ => trivial) (hs : X.stack = X.env :: X.outer := by rfl) (hf : X.env.frame = some X.env.locals := by rfl) : Hds X (.ExceptHandler (some (.Name x np)) none (b₀ :: su) pos' :: hds) (wCl X.K c ts wr) := by
  rintro pins D σ H cls d a s k ⟨b, hb, w⟩
  refine wpAny_handleBy_cons (hd_test (Q := fun _ _ => True) (E := fun _ _ => True) hc k hs hf hb ?_) (fun q => by cases q)
  cases b with
  | false => exact r pins D σ H cls d a s k w
  | true =>
    refine codeAny_handlers_suite (k.again fun s1 k1 => ?_)
    obtain ⟨oe, ⟨z, dd⟩, _, S⟩ := k1.suite hs hf
    refine wpAny_mono ((hsu a oe cls d (X.pn ++ pins) z dd).run [] s1 σ H _ S (w a k.1)) (fun f s2 q => ?_) (fun _ _ q => False.elim q)
    have back : ∀ {σ2 H2}, Inv (X.suite a ((a, oe) :: (X.pn ++ pins))) [] σ2 H2 s2 → Inv X pins σ2 H2 s2 := fun J => J.unsuite k.inv.ok
    match f, q with
    | .ret u, ⟨v, σ2, H2, J, q⟩ => exact ⟨v, σ2, H2, back J, q⟩
    | .next, ⟨σ2, H2, J, q⟩ => exact ⟨σ2, H2, back J, q⟩
    | .brk, ⟨σ2, H2, J, q⟩ => exact ⟨σ2, H2, back J, q⟩
    | .cont, ⟨σ2, H2, J, q⟩ => exact ⟨σ2, H2, back J, q⟩
theorem hds_as {x n : Str} {np pos' : Pos} {c : Value} {i : Nat} {ts : Addr → Value → Option Addr → L2.TS} {b₀ : Stmt} {su : List Stmt} {hds : List ExceptHandler} {wr : Ends → WX} (hN : X.N.Nodup) (hi : X.N[i]? = some n) (hln : X.env.kindOf n = some .local) (hc : Names X x c)
    (hsu : ∀ (a : Addr) (oe : Obj) (cls : Value) (d : Option Addr) (pn : List (Addr × Obj)), Zc cls d oe → (∃ vs, oe.data = .fields vs) → PSs (X.suite a ((a, oe) :: pn)) (b₀ :: su) (ts a cls d)) (r : Hds X hds wr)
    (hs : X.stack = X.env :: X.outer := by rfl) (hf : X.env.frame = some X.env.locals := by rfl) : Hds X (.ExceptHandler (some (.Name x np)) (some n) (b₀ :: su) pos' :: hds) (wClA X.K c i ts wr) := by
  rintro pins D σ H cls d a s k ⟨b, hb, w⟩
  refine wpAny_handleBy_cons (hd_test (Q := fun _ _ => True) (E := fun _ _ => True) hc k hs hf hb ?_) (fun q => by cases q)
  cases b with
  | false => exact r pins D σ H cls d a s k w
  | true =>
    refine codeAny_handlers_suite_as (k.again fun s1 k1 => ?_)
    obtain ⟨oe, ⟨z, dd⟩, _, S⟩ := k1.suite hs hf
    refine store_ok (X := X.suite a ((a, oe) :: (X.pn ++ pins))) (v := .ref a) S hN hi (.inl hln) rfl (fun s2 S2 => ?_) (.inr hln)
    refine wpAny_mono ((hsu a oe cls d (X.pn ++ pins) z dd).run [] s2 _ H _ S2 (w a k.1)) (fun f s3 q => ?_) (fun _ _ q => False.elim q)
    have back : ∀ {σ3 : L2.St} {H3 : Hp} {Q : Unit → Shared → Prop}, Inv (X.suite a ((a, oe) :: (X.pn ++ pins))) [] σ3 H3 s3 → (∀ s4, Inv X pins (σ3.set i none) H3 s4 → Q () s4) →
      wpAny (model X.prog X.w) X.A (do bindName X.env n .none; unbindBehindTheSuite X.env n pos') Q X.xe s3 := fun J g => gone_ok (J.unsuite k.inv.ok) hN hi hln g
    match f, q with
    | .ret u, ⟨v, σ3, H3, J, q⟩ => exact back J fun s4 J4 => ⟨v, _, H3, J4, q⟩
    | .next, ⟨σ3, H3, J, q⟩ => exact back J fun s4 J4 => ⟨_, H3, J4, q⟩
    | .brk, ⟨σ3, H3, J, q⟩ => exact back J fun s4 J4 => ⟨_, H3, J4, q⟩
    | .cont, ⟨σ3, H3, J, q⟩ => exact back J fun s4 J4 => ⟨_, H3, J4, q⟩
/-- try: body / the clauses -/
theorem ps_tryG {body : List Stmt} {h₀ : ExceptHandler} {hds : List ExceptHandler} {wv : Ends → WX} {tb : WX → L2.TS} {pos : Pos}
    (hb : ∀ (W : WX) (pn : List (Addr × Obj)) (xe : Value → Shared → Prop), Takes (X.tr pn xe) W → PSs (X.tr pn xe) body (tb W)) (hh : Hds X (h₀ :: hds) wv)
    (hs : X.stack = X.env :: X.outer := by rfl) (hf : X.env.frame = some X.env.locals := by rfl) : PS X (.Try body (h₀ :: hds) [] [] pos) (fun D σ H => tb (wv D) D σ H) := by
  constructor
  intro pins s σ H D I h
  have ok := I.ok
  have hfr : X.A.frames = some (X.env :: X.outer) := ok.frames.trans (by rw [hs])
  let xe2 : Value → Shared → Prop := fun e s₁ => wpAny (model X.prog X.w) X.A (noteFrame e X.env) (fun _ s₂ => wpAny (model X.prog X.w) X.A (setFlight e none) (fun _ s₃ =>
    wpAny (model X.prog X.w) X.A (handleBy e X.env (h₀ :: hds)) (SP X pins D) X.xe s₃) X.xe s₂) X.xe s₁
  have tk : Takes (X.tr (X.pn ++ pins) xe2) (wv D) := by
    rintro u s' ⟨a, B, sI, pins', σ', H', cls, d, rfl, J, nb, up, sky, na, os, ag, w⟩
    have sky2 : Sky B (X.env :: X.outer) a (Zc cls d) X.env.locals s'.heap := hs ▸ sky
    refine Sky.land Zc.steady hfr hf sky2 fun h3 fl up3 => ?_
    exact hh pins D σ' H' cls d a { s' with heap := h3 } ⟨na, B, sI, J.ofTry ok, nb, up.trans up3, hs ▸ fl, os, ag⟩ w
  refine wpAny_Try_except (wpAny_mono ((hb (wv D) _ _ tk).run [] s σ H D (I.toTry _) h) (fun f s1 q => ?_) (fun _ _ q => q))
  match f, q with
  | .next, ⟨σ2, H2, J, q⟩ => exact wpAny_execs_nil ⟨σ2, H2, J.ofTry ok, q⟩
  | .ret u, ⟨v, σ2, H2, J, q⟩ => exact ⟨v, σ2, H2, J.ofTry ok, q⟩
  | .brk, ⟨σ2, H2, J, q⟩ => exact ⟨σ2, H2, J.ofTry ok, q⟩
  | .cont, ⟨σ2, H2, J, q⟩ => exact ⟨σ2, H2, J.ofTry ok, q⟩
end
end RM

set_option Elab.async false
set_option linter.all false
set_option maxRecDepth 100000
set_option maxHeartbeats 2000000
namespace RM
open PySem PySem.Spec PyProof.Rows L2
/-- the dict at N has no keys but these -/
def keysB (K : PySem.W.Frag) (N : Addr) (ws : List Str) : Bool :=
  match K.lookup N with
  | some ⟨_, _, .dict es _, _⟩ => es.toList.all fun e => match e.key with
    | .str z _ => decide (z ∈ ws)
    | _ => false
  | _ => false
theorem keysB_no {K : PySem.W.Frag} {N : Addr} {ws : List Str} (h : keysB K N ws = true) {w : Str} (hw : w ∉ ws) : PySem.W.nsIn K N w = some none := by
  unfold keysB at h
  split at h
  case h_2 => cases h
  case h_1 c d es n sl lk =>
    unfold PySem.W.nsIn
    rw [lk]
    dsimp only
    have key : ∀ e ∈ es.toList, ∃ z t, e.key = .str z t ∧ z ∈ ws := fun e he => by
      have := List.all_eq_true.mp h e he
      split at this
      · rename_i z t hk
        exact ⟨z, t, hk, of_decide_eq_true this⟩
      · cases this
    have f : es.toList.find? (·.key.isStr w) = none := by
      rw [List.find?_eq_none]
      intro e he
      obtain ⟨z, t, hk, hz⟩ := key e he
      rw [hk]
      intro q
      have : z = w := by simpa [Value.isStr] using q
      exact hw (this ▸ hz)
    rw [f]
    have g : es.toList.any (·.refKey) = false := by
      rw [List.any_eq_false]
      intro e he
      obtain ⟨z, t, hk, _⟩ := key e he
      unfold DictEntry.refKey
      rw [hk]
      simp
    dsimp only
    rw [g]
    rfl
end RM

set_option Elab.async false
set_option linter.all false
set_option maxRecDepth 100000
set_option maxHeartbeats 2000000
/-! sets of texts that can be walked: which texts, not their order -/
namespace RM
open PySem PySem.Spec PyProof.Rows L2 PySem.Froz
/-! ### the table: it rises, and its order is told -/
def Wk (w : World) (t : SetTable) : Prop := Ris t.place.toList ∧ (w.params.followText "set-order" = true ∨ t.led = true)
theorem Wk.of {w : World} {t u : SetTable} (k : Wk w t) (h : Ris t.place.toList → Ris u.place.toList) (e : u.led = t.led) : Wk w u := ⟨h k.1, k.2.imp_right fun l => by rw [e, l]⟩
theorem Wk.tail {w : World} {ep : Nat} {es : Array (Int × Value)} {t : SetTable} {b : Bool} (k : Wk w t) : Wk w (tailTx ep es t b).2.2 := by
  by_cases c : (!b && t.tooFull) = true
  · rw [tailTx, if_pos c]
    exact k.of (fun _ => relayAll_ris t es _) (relayAll_led t es _)
  · rw [tailTx, if_neg c]
    exact k
theorem Wk.add {w : World} {z : Int} {v : Value} {D : SD} (k : Wk w D.2.2) : Wk w (addTx z v D).2.2 := by
  rw [addTx]
  have k1 : Wk w (layNew D.2.2 D.1 z v).2.1 := k.of (layNew_ris D.2.2 D.1 z v) (layNew_led D.2.2 D.1 z v)
  by_cases c : (layNew D.2.2 D.1 z v).2.1.plain = true
  · rw [if_pos c]
    exact Wk.tail (t := { (layNew D.2.2 D.1 z v).2.1 with plain := false }) ⟨k1.1, k1.2⟩
  · rw [if_neg c]
    exact k1.tail
/-! ### what is known of such a set -/
structure Txs (P : Program) (w : World) (D : SD) (l : List Str) : Prop where
  ok : TxOk P w D l
  nd : l.Nodup
  wk : Wk w D.2.2
  few : l.length < scanBound
/-- at a stands a set of the texts l -/
def SX (P : Program) (w : World) (h : Heap) (a : Addr) (l : List Str) : Prop := ∃ D : SD, h.get? a = some (sObj "set" D) ∧ Txs P w D l
/-- an empty set as the world makes it -/
abbrev bareX (w : World) : Obj := { cls := .type "set", dict := none, data := .set #[] 0 (.fresh 0 0 (!w.params.followText "set-order")) }
section
variable {P : Program} {w : World} {h h' : Heap} {a : Addr} {l : List Str}
theorem SX.at (R : SX P w h a l) (k : ∀ o, h.get? a = some o → h'.get? a = some o) : SX P w h' a l := R.imp fun _ q => ⟨k _ q.1, q.2⟩
theorem SX.some (R : SX P w h a l) : ∃ o, h.get? a = some o := let ⟨_, e, _⟩ := R; ⟨_, e⟩
theorem sx_fresh (e : h.get? a = some (bareX w)) : SX P w h a [] := by
  refine ⟨(#[], 0, .fresh 0 0 (!w.params.followText "set-order")), e, .nil rfl, List.nodup_nil, ⟨List.Pairwise.nil, ?_⟩, by decide⟩
  by_cases c : w.params.followText "set-order" = true
  · exact .inl c
  · exact .inr (by show (!w.params.followText "set-order") = true; rw [Bool.not_eq_true] at c; rw [c]; rfl)
end
/-- k put to l, if it isn't there -/
def insX (k : Str) (l : List Str) : List Str := if k ∈ l then l else k :: l
theorem insX_mem {k x : Str} {l : List Str} : x ∈ insX k l ↔ x = k ∨ x ∈ l := by
  rw [insX]
  by_cases c : k ∈ l
  · rw [if_pos c]
    exact ⟨Or.inr, fun z => z.elim (fun e => e ▸ c) id⟩
  · rw [if_neg c, List.mem_cons]
theorem insX_len {k : Str} {l : List Str} : (insX k l).length ≤ l.length + 1 := by
  rw [insX]
  by_cases c : k ∈ l
  · rw [if_pos c]; omega
  · rw [if_neg c]; exact Nat.le_refl _
/-! ### a text put in -/
section
variable {P : Program} {w : World} {A : Around} {E : Value → Shared → Prop} {s : Shared} {a : Addr} {l : List Str} {k : Str} {u : Tok}
theorem texts_at {D : SD} (F : TxOk P w D l) (hk : k ∈ l) : ∃ j, List.findIdx? (fun e => (strKind P w).is k e.2) D.1.toList = some j := by
  obtain ⟨e, he, z⟩ := (F.mem k).mp hk
  rw [← Option.isSome_iff_exists, List.findIdx?_isSome, List.any_eq_true]
  exact ⟨e, he, z⟩
/-- one that is there already: nothing happens -/
theorem again_x {D : SD} {Q : Bool → Shared → Prop} (e : s.heap.get? a = some (sObj "set" D)) (F : Txs P w D l) (hk : k ∈ l) (q : Q false s) : wpAny (model P w) A (setAddHashed a (.str k u) (hashStr w k)) Q E s := by
  obtain ⟨j, hj⟩ := texts_at F.ok hk
  have few : D.1.size < scanBound := by rw [F.ok.sz]; exact F.few
  unfold setAddHashed setAddHashedIn
  refine wpAny_holding (wpAny_bind (wpAny_setState_of (es := D.1) (ep := D.2.1) (t := D.2.2) e rfl F.ok.fit ?_))
  dsimp only
  rw [byScan_of (knd := strKind P w) (x := Value.str k u) rfl few F.ok.el]
  rw [if_pos rfl]
  unfold setAddByScan
  refine wpAny_bind (wpAny_bind (wpAny_rule (wpAny_bind (wpAny_setScan_of (knd := strKind P w) (k := k) (es := D.1) (ep := D.2.1) (t := D.2.2) (is_str k u) e rfl F.ok.fit F.ok.el ?_))))
  rw [hj]
  exact wpAny_pure (wpAny_pure q)
/-- setAdd's step behind the hash -/
theorem put_x {Q : Bool → Shared → Prop} (R : SX P w s.heap a l) (room : l.length + 1 < scanBound) (q : ∀ b h', Heap.SameBut a s.heap h' → SX P w h' a (insX k l) → Q b { s with heap := h' }) :
    wpAny (model P w) A (setAddHashed a (.str k u) (hashStr w k)) Q E s := by
  obtain ⟨D, e, F⟩ := id R
  rw [insX] at q
  by_cases c : k ∈ l
  · rw [if_pos c] at q
    exact again_x e F c (q false s.heap (Heap.SameBut.refl a _) R)
  · rw [if_neg c] at q
    refine add_x e F.ok c room (q true _ (Heap.SameBut.update _ _ _) ⟨_, get_upd _ e rfl, add_ok u F.ok, List.nodup_cons.mpr ⟨c, F.nd⟩, F.wk.add, ?_⟩)
    rw [List.length_cons]
    exact room
/-- the whole of setAdd -/
theorem setAdd_x {Q : Bool → Shared → Prop} (R : SX P w s.heap a l) (room : l.length + 1 < scanBound) (q : ∀ b h', Heap.SameBut a s.heap h' → SX P w h' a (insX k l) → Q b { s with heap := h', toks := s.toks + 1 }) :
    wpAny (model P w) A (setAdd a (.str k u)) Q E s := by
  unfold setAdd
  exact wpAny_holding (wpAny_bind ((strKind P w).pyHash (is_str k u) (put_x (s := { s with toks := s.toks + 1 }) R room q)))
/-- s.add(text) -/
theorem call_add_x {Q : Value → Shared → Prop} (R : SX P w s.heap a l) (room : l.length + 1 < scanBound) (q : ∀ h', Heap.SameBut a s.heap h' → SX P w h' a (insX k l) → Q .none { s with heap := h', toks := s.toks + 1 }) :
    wpAny (model P w) A (call (.builtin "set.add") [.ref a, .str k u]) Q E s := by
  have ty : s.TypeIs (.ref a) "set" := let ⟨_, e, _⟩ := R; ⟨_, e, rfl⟩
  refine wpAny_call_entry F.slot_set_add ty F.entry_set_add ?_ (F.args_set_add_2 _ _)
  show wpAny _ _ (setAdd a (.str k u) >>= fun _ => ret Value.none) _ _ s
  exact wpAny_bind (setAdd_x R room fun _ h' sb r => wpAny_pure ⟨_, rfl, q h' sb r⟩)
end
/-! ### as a tracked thing -/
def SetX (P : Program) (w : World) (a : Addr) (l : List Str) : HO := .ext fun h => SX P w h a l
theorem setX_new {P : Program} {w : World} {H : Hp} {h : Heap} {a : Addr} {l : List Str} (R : SX P w h a l) : ObjOk P w H h a (SetX P w a l) := ⟨R, R.some, fun _ _ p k => SX.at p k⟩
section
variable {X : Cx} {pins : List (Addr × Obj)} {σ : L2.St} {H : Hp} {s : Shared}
theorem Txs.of {a : Addr} {l : List Str} (I : Inv X pins σ H s) (e : H a = some (SetX X.prog X.w a l)) : SX X.prog X.w s.heap a l := (I.hok a _ e).1
theorem addX_ok {E : Value → Shared → Prop} {A : Around} {D : Addr} {l : List Str} {k : Str} {u : Tok} {Q : Value → Shared → Prop} (I : Inv X pins σ H s) (hD : H D = some (SetX X.prog X.w D l)) (room : l.length + 1 < scanBound)
    (q : ∀ s', Inv X pins σ (upd H D (SetX X.prog X.w D (insX k l))) s' → Q .none s') : wpAny (model X.prog X.w) A (call (.builtin "set.add") [.ref D, .str k u]) Q E s :=
  call_add_x (Txs.of I hD) room fun _ sb R => q _ (I.write (by rw [hD]; trivial) (.inl rfl) (fun b o ne e => by rw [sb.2 b ne]; exact e) R.some (setX_new R))
end
end RM

set_option Elab.async false
set_option linter.all false
set_option maxRecDepth 100000
set_option maxHeartbeats 4000000
/-! set comprehensions, clause by clause: one theorem of a clause's loop, whatever stands behind its tests -/
namespace RM
open PySem PySem.Spec PyProof.Rows L2 PpSet
/-- the slots that the block keeps are known still -/
def Kept (σ σ' : L2.St) : Prop := ∀ (j : Nat) v, σ[j]? = some (some v) → σ'[j]? = some (some v)
theorem kept_wipe (σ : L2.St) (vs : List Nat) : Kept (wipe σ vs) σ := fun _ _ e => (wipe_some e).1
theorem kept_less {σ : L2.St} {vs ws : List Nat} (h : ∀ i ∈ ws, i ∈ vs) : Kept (wipe σ vs) (wipe σ ws) := fun j v e => by
  obtain ⟨e1, e2⟩ := wipe_some e
  rw [wipe_out fun z => e2 (h j z), e1]
/-- one turn's text: `work` behind the tests -/
def turnText (e : Expr) (k : Nat) (tg : Expr) (p : Pos) (ifs : List Expr) (work : Sem Unit) (it acc : Value) (env : Env) : Sem Fin :=
  standAt p >>= fun _ => pyNext it >>= fun r => match r with
    | none => pure (.done .next)
    | some v => letOwnedTupleGo tg it v >>= fun _ => assign tg env v >>= fun _ =>
      (forIn ifs true fun c r => if r = true then isTrue c env (eval c env) >>= fun ok => pure (ForInStep.yield ok) else pure (ForInStep.yield r)) >>= fun ok =>
        if ok = true then work >>= fun _ => again (.compLoop e k it acc env) else again (.compLoop e k it acc env)
section
variable {Y : Cx} {elt : Expr} {gens : List Comprehension} {scope : Scope} {pos : Pos} {k : Nat} {tg : Expr} {p : Pos} {ifs : List Expr} {work : Sem Unit} {it : Addr} {acc : Value} {pins : List (Addr × Obj)} {fp : List Addr} {tn : Nat → Heap → Prop} {J : It}
  {g : TG} {tt : TT} {wk : L2.St → Hp → (Hp → Prop) → Prop} {σ0 : L2.St} {vs : List Nat} {W : Nat → Nat → Hp → Prop} {fin : Hp → Prop} {R : Result → Shared → Prop}
theorem clause_loop (hY : Y.xe = fun _ _ => False) (hc : Y.calm = true) (he : compTurn (.SetComp elt gens scope pos) k (.ref it) acc Y.env = turnText (.SetComp elt gens scope pos) k tg p ifs work (.ref it) acc Y.env)
    (T : Turn Y.prog Y.w Y.K tg J fp it tn) (own : ∀ b ∈ fp, ∃ H, FpOk Y pins H b) (pg : PG Y tg g) (pt : PTs Y ifs tt)
    (pw : ∀ pl σ H N s, Inv Y (pins ++ pl) σ H s → wk σ H N → wpAny (model Y.prog Y.w) Y.A work (fun _ s' => ∃ σ' H', Inv Y (pins ++ pl) σ' H' s' ∧ Kept (wipe σ vs) σ' ∧ N H') (fun _ _ => False) s)
    (tu : Turns J g tt wk σ0 vs W fin) (hR : ∀ H s, Inv Y pins σ0 H s → fin H → R (.ok .next) s) {m i : Nat} {H : Hp} {s : Shared} (I : Inv Y pins σ0 H s) (st : tn i s.heap) (fr : ∀ b ∈ fp, H b = none) (w : W i m H) :
    codeAny (model Y.prog Y.w) Y.A (.compLoop (.SetComp elt gens scope pos) k (.ref it) acc Y.env) R s := by
  have out : ∀ {H : Hp}, (∀ b ∈ fp, H b = none) → ∀ b ∈ fp, FpOk Y pins H b := fun f b hb => let ⟨_, z⟩ := own b hb; ⟨f b hb, z.2⟩
  refine codeAny_loop rfl (fun n s' => ∃ i H', Inv Y pins σ0 H' s' ∧ tn i s'.heap ∧ (∀ b ∈ fp, H' b = none) ∧ W i n H') ?_ m ⟨i, H, I, st, fr, w⟩
  clear I st fr w
  rintro n s ⟨i, H, I, st, fr, w⟩
  show wpAny _ Y.A ((compTurn (.SetComp elt gens scope pos) k (.ref it) acc Y.env).onRaise fun x => noteFrame x Y.env >>= fun _ => theTreesLotGoes x) _ _ s
  refine wpAny_noted ?_
  rw [he, turnText]
  refine wpAny_bind (wpAny_standAt (wpAny_bind ?_))
  rcases tu i n H w with ⟨stop, q⟩ | ⟨go, N, hN, step⟩
  · refine thnF (T.done Y rfl rfl rfl hc i pins s σ0 H _ I (out fr) st stop) fun r s1 z => ?_
    rw [z.1]
    exact wpAny_pure (hR H s1 z.2 q)
  refine thnF (T.item Y rfl rfl rfl hc i pins s σ0 H _ I (out fr) st go) fun r s1 z => ?_
  obtain ⟨u, rfl, z⟩ := z
  refine wpAny_bind (thnF z fun _ s2 z => ?_)
  obtain ⟨x, H2, I2, rx, y, st2, fr2⟩ := z
  -- what a turn's end asks
  have fine : ∀ {σ' : L2.St} {H' : Hp} {s' : Shared}, Inv Y (pins ++ pinsAt fp s2.heap) σ' H' s' → Kept σ0 σ' → N H' → ∃ n', n' < n ∧ ∃ i H', Inv Y pins σ0 H' s' ∧ tn i s'.heap ∧ (∀ b ∈ fp, H' b = none) ∧ W i n' H' := by
    intro σ' H' s' I' kp nx
    obtain ⟨n', lt, w'⟩ := hN H' nx
    have stays : ∀ b ∈ fp, ∀ o, s2.heap.get? b = some o → s'.heap.get? b = some o ∧ H' b = none := fun b hb o eo => by
      obtain ⟨p1, p2, _⟩ := I'.pin (b, o) (List.mem_append.mpr (.inr (List.mem_append.mpr (.inr (mem_pinsAt hb eo)))))
      exact ⟨p1, p2⟩
    refine ⟨n', lt, i + 1, H', I'.unpinned.weak (I.len.trans I'.len.symm) kp, T.keep _ _ _ st2 fun b hb o eo => (stays b hb o eo).1, fun b hb => ?_, w'⟩
    obtain ⟨o, eo, _⟩ := T.obj _ _ st2 b hb
    exact (stays b hb o eo).2
  have pgr := pg.run _ s2 σ0 H2 x u _ (I2.pinned (out fr2) (T.obj _ _ st2)) rx (step x H2 y)
  rw [hY] at pgr
  refine wpAny_bind (thnF pgr fun _ s3 z => ?_)
  obtain ⟨σ3, H3, I3, e3, z⟩ := z
  have ptr := pt.run _ s3 σ3 H3 _ I3 z
  rw [hY] at ptr
  refine wpAny_bind (thnF ptr fun b s4 z => ?_)
  obtain ⟨H4, I4, z⟩ := z
  by_cases hb : b = true
  · rw [if_pos hb] at z ⊢
    refine wpAny_bind (thnF (pw _ σ3 H4 N s4 I4 z) fun _ s5 z => ?_)
    obtain ⟨σ5, H5, I5, kp, nx⟩ := z
    exact wpAny_pure ⟨rfl, fine I5 (e3 ▸ kp) nx⟩
  · rw [if_neg hb] at z ⊢
    exact wpAny_pure ⟨rfl, fine I4 (e3 ▸ kept_wipe σ3 vs) z⟩
end
/-- a clause's start: its iterator is asked for itself, or not; the loop then -/
theorem clause_start {P : Program} {w : World} {A : Around} {R : Result → Shared → Prop} {s : Shared} {elt : Expr} {gens : List Comprehension} {scope : Scope} {pos : Pos} {k : Nat} {g : Comprehension} {it acc : Value} {env : Env}
    (hg : gens[k]? = some g) (ha : g.is_async = 0) (self : ∀ (Q : Value → Shared → Prop) (E : Value → Shared → Prop), Q it s → wpAny (model P w) A (pyIter it) Q E s)
    (loop : codeAny (model P w) A (.compLoop (.SetComp elt gens scope pos) k it acc env) R s) : codeAny (model P w) A (.compStart (.SetComp elt gens scope pos) k it acc env) R s := by
  refine codeAny_of_tree ?_
  show wpAny _ A ((compStart (.SetComp elt gens scope pos) k it acc env).onRaise fun x => noteFrame x env >>= fun _ => standAt theWindowsPlace) _ _ s
  refine wpAny_notedAt ?_
  have hk : (clausesOf (.SetComp elt gens scope pos))[k]? = some g := hg
  unfold compStart
  rw [hk]
  have hn : ((some g).elim false fun c : Comprehension => c.is_async != 0) = false := by
    show (g.is_async != 0) = false
    rw [ha]; rfl
  rw [hn]
  show wpAny _ _ (ask >>= _) _ _ s
  refine wpAny_bind (wpAny_askSetting ?_)
  show wpAny _ _ (if w.params.followText "comprehension-iter-twice" = true then _ else _) _ _ s
  by_cases c : w.params.followText "comprehension-iter-twice" = true
  · rw [if_pos c]
    exact wpAny_bind (wpAny_pure (wpAny_pure ⟨rfl, loop⟩))
  · rw [if_neg c]
    exact wpAny_bind (wpAny_rule (wpAny_bind (wpAny_standAt (wpAny_bind (self _ _ (wpAny_pure ⟨rfl, loop⟩))))))
section
variable {X : Cx}
/-- in each block with this scope -/
abbrev InBlk (X : Cx) (scope : Scope) (F : Cx → Prop) : Prop := ∀ s H C cl fp, F (X.blk s H scope (compEnvC scope cl C X.env) fp)
/-- a new text is put to D -/
abbrev addsX (P : Program) (w : World) (D : Addr) (te : TE) : L2.St → Hp → (Hp → Prop) → Prop := fun σ H N => te σ H fun y H1 => ∃ (c : Str) (l : List Str), y = .str c ∧ H1 D = some (SetX P w D l) ∧ l.length + 1 < scanBound ∧ N (upd H1 D (SetX P w D (insX c l)))
/-- a set comprehension's reading: wk, what is done behind the first clause's tests -/
def tBlk (P : Program) (w : World) (wi : TI) (g : TG) (tt : TT) (wk : Addr → L2.St → Hp → (Hp → Prop) → Prop) (vs : List Nat) : TE := fun σ H Q => wi σ H fun J H1 => ∀ D, H1 D = none →
  ∃ W : Nat → Nat → Hp → Prop, (∃ m, W 0 m (upd H1 D (SetX P w D []))) ∧ Turns J g tt (wk D) (wipe σ vs) vs W (Q (.ref D))
theorem set_block {elt tg iter : Expr} {ifs : List Expr} {rest : List Comprehension} {scope : Scope} {own : List (Str × Nat)} {pos : Pos} {wi : TI} {g : TG} {tt : TT} {wk : Addr → L2.St → Hp → (Hp → Prop) → Prop} {work : Addr → Env → Sem Unit}
    (hc : X.calm = true) (hN : X.N.Nodup) (hi : PI X tg iter wi) (ok : BlkOk X.N X.env.scope scope own)
    (hg : InBlk X scope fun Y => PG Y tg g)
    (ht : InBlk X scope fun Y => PTs Y ifs tt)
    (he : ∀ it D env, compTurn (.SetComp elt (⟨tg, iter, ifs, 0⟩ :: rest) scope pos) 0 (.ref it) (.ref D) env = turnText (.SetComp elt (⟨tg, iter, ifs, 0⟩ :: rest) scope pos) 0 tg iter.pos ifs (work D env) (.ref it) (.ref D) env)
    (pw : ∀ (s0 : Shared) (H0 : Hp) (C : Addr) (cl : List (Str × Addr)) (fp : List Addr) (D : Addr) pins σ H N s, Inv (X.blk s0 H0 scope (compEnvC scope cl C X.env) fp) pins σ H s → wk D σ H N →
      wpAny (model X.prog X.w) X.A (work D (compEnvC scope cl C X.env)) (fun _ s' => ∃ σ' H', Inv (X.blk s0 H0 scope (compEnvC scope cl C X.env) fp) pins σ' H' s' ∧ Kept (wipe σ (own.map (·.2))) σ' ∧ N H') (fun _ _ => False) s)
    (hs : ∀ x, foldedSetIterable iter X.env x = pure x) : PE X (.SetComp elt (⟨tg, iter, ifs, 0⟩ :: rest) scope pos) (tBlk X.prog X.w wi g tt wk (own.map (·.2))) := by
  refine ⟨fun pins s σ H Q I h => ?_⟩
  rw [eval_SetComp]
  have free : ∀ y ∈ scope.names, y.2 = .free → ∃ c, X.env.cells.lookup y.1 = some c := fun y hy e => I.ok.has _ (ok.free y hy e)
  refine wpAny_comprehension_free (use := none) rfl hs (closure_ok free) ok.kind (fun y hy e => e ▸ ok.uniq y hy) (thn (hi.run pins s σ H _ I h) fun _ _ z => thn z fun _ s2 z => ?_)
  obtain ⟨it, fp, tn, J, H2, rfl, I2, T, st2, f2, q⟩ := z
  refine newSet_ok (newEnv_comp ?_)
  obtain ⟨W, ⟨m0, w0⟩, tu⟩ := q s2.heap.objs.size (I2.hok.fresh (Nat.le_refl _))
  have I3 := I2.laid (t' := s2.toks) (a := s2.heap.objs.size) (fun b o e => Heap.get?_push_of_some (bareX X.w) e) (Nat.le_refl _) (setX_new (sx_fresh (Heap.get?_push_size _ rfl)))
  have young : ∀ b ∈ fp, b < s2.heap.objs.size := fun b hb => let ⟨_, e, _⟩ := T.obj _ _ st2 b hb; Heap.lt_size e
  have st3 := T.keep 0 _ (s2.heap.push (bareX X.w)) st2 fun b _ o e => Heap.get?_push_of_some _ e
  have f3 : ∀ b ∈ fp, FpOk X pins (upd H2 s2.heap.objs.size (SetX X.prog X.w s2.heap.objs.size [])) b := fun b hb => ⟨by rw [upd_ne (Nat.ne_of_lt (young b hb))]; exact (f2 b hb).1, (f2 b hb).2⟩
  have old : ∀ b ∈ fp, b < (s2.heap.push (bareX X.w)).objs.size := fun b hb => by rw [Heap.size_push]; exact Nat.lt_succ_of_lt (young b hb)
  generalize upd H2 s2.heap.objs.size (SetX X.prog X.w s2.heap.objs.size []) = H3 at I3 f3 w0
  generalize s2.heap.objs.size = D at I3 tu ⊢
  generalize hs3 : ({ s2 with heap := s2.heap.push (bareX X.w) } : Shared) = s3 at I3
  have e3 : s3.heap = s2.heap.push (bareX X.w) := by rw [← hs3]
  rw [← e3] at st3 old
  have I4 := block_start I3 ok hN fun b hb => ⟨f3 b hb, old b hb⟩
  have st4 := T.keep 0 _ (pushCells (s3.heap.push { cls := .type "dict", data := .dict #[] }) scope.names) st3 fun b _ o e => pushCells_keeps _ _ _ _ (Heap.get?_push_of_some _ e)
  show codeAny _ _ (.compStart _ 0 (.ref it) (.ref D) (compEnvC scope (cellsFrom (s3.heap.objs.size + 1) scope.names (cloFrom X.env.cells scope.names [])) s3.heap.objs.size X.env)) _
    { s3 with heap := pushCells (s3.heap.push { cls := .type "dict", data := .dict #[] }) scope.names }
  refine clause_start rfl rfl (fun _ _ z => T.self X.A 0 _ _ _ st4 z) ?_
  refine clause_loop (Y := X.blk s3 H3 scope (compEnvC scope (cellsFrom (s3.heap.objs.size + 1) scope.names (cloFrom X.env.cells scope.names [])) s3.heap.objs.size X.env) fp) rfl hc (he _ _ _) T
    (fun b hb => ⟨H3, (f3 b hb).1, (I4.ok.exf b hb).1, I4.ok.exfs b hb, .inl hb, fun x c e => (I4.ok.exf b hb).2 x c e, fun p hp => (List.not_mem_nil (show p ∈ ([] : List (Addr × Obj)) from hp)).elim⟩) (hg _ _ _ _ _) (ht _ _ _ _ _) (fun pl σ' H' N s' I' z => pw _ _ _ _ _ D _ _ _ _ _ I' z) tu (fun H' s' I' q => ?_) I4 st4 (fun b hb => (f3 b hb).1) w0
  -- back in the def
  have J' := I3.call' (ch := fp) I'.os I'.base I'.hok I'.bare fun b hb => let ⟨_, z1, _, z3, z4, z5⟩ := f3 b hb; ⟨z3, z1, z4, z5⟩
  obtain ⟨m, hm, _⟩ := I'.loc
  obtain ⟨n0, n1, n2, n3, n4, n5⟩ := I3.fpOk (H' := H') (Nat.le_refl _) I'.free
  exact ⟨m, hm, fun h'' sb => ⟨.ref D, H', J'.turned (t' := s'.toks) (fun b o hb e => (sb.2 b hb).trans e) n0 n1 n3 n4 n5, rfl, q⟩⟩
/-- the element's text, then its add -/
def emitX (elt : Expr) (D : Addr) (env : Env) : Sem Unit := eval elt env >>= fun v => standAt elt.pos >>= fun _ => call (.builtin "set.add") [.ref D, v] >>= fun _ => pure ()
theorem emits {Y : Cx} {elt : Expr} {te : TE} {D : Addr} {vs : List Nat} (hY : Y.xe = fun _ _ => False) (he : PE Y elt te) {pins σ H N s} (I : Inv Y pins σ H s) (h : addsX Y.prog Y.w D te σ H N) :
    wpAny (model Y.prog Y.w) Y.A (emitX elt D Y.env) (fun _ s' => ∃ σ' H', Inv Y pins σ' H' s' ∧ Kept (wipe σ vs) σ' ∧ N H') (fun _ _ => False) s := by
  have r := he.run pins s σ H _ I h
  rw [hY] at r
  refine wpAny_bind (thnF r fun v s1 z => wpAny_bind (wpAny_standAt (wpAny_bind ?_)))
  obtain ⟨_, H1, I1, rv, c, l, rfl, e, room, nx⟩ := z
  obtain ⟨u, rfl⟩ := (show ∃ u, v = Value.str c u from rv)
  exact addX_ok I1 e room fun s2 I2 => wpAny_pure ⟨σ, _, I2, kept_wipe σ vs, nx⟩
/-- {elt for tg in iter if ..} -/
abbrev tScX (P : Program) (w : World) (wi : TI) (g : TG) (tt : TT) (te : TE) (vs : List Nat) : TE := tBlk P w wi g tt (fun D => addsX P w D te) vs
theorem pe_scX {elt tg iter : Expr} {ifs : List Expr} {scope : Scope} {own : List (Str × Nat)} {pos : Pos} {wi : TI} {g : TG} {tt : TT} {te : TE} (hc : X.calm = true) (hN : X.N.Nodup) (hi : PI X tg iter wi) (ok : BlkOk X.N X.env.scope scope own)
    (hg : InBlk X scope fun Y => PG Y tg g)
    (ht : InBlk X scope fun Y => PTs Y ifs tt)
    (he : InBlk X scope fun Y => PE Y elt te) (hs : ∀ x, foldedSetIterable iter X.env x = pure x := by intro _; rfl) :
    PE X (.SetComp elt [⟨tg, iter, ifs, 0⟩] scope pos) (tScX X.prog X.w wi g tt te (own.map (·.2))) :=
  set_block (work := emitX elt) hc hN hi ok hg ht (fun _ _ _ => rfl) (fun s0 H0 C cl fp D pins σ H N s I h => emits (Y := X.blk s0 H0 scope (compEnvC scope cl C X.env) fp) rfl (he _ _ _ _ _) I h) hs
/-- {elt for tg in iter if .. for tg1 in iter1 if ..}: vs1, the second target's slots -/
abbrev tScX2 (P : Program) (w : World) (wi : TI) (g : TG) (tt : TT) (wi1 : TI) (g1 : TG) (tt1 : TT) (te : TE) (vs vs1 : List Nat) : TE :=
  tBlk P w wi g tt (fun D σ H N => wi1 σ H fun J1 H1 => ∃ W1 : Nat → Nat → Hp → Prop, (∃ m, W1 0 m H1) ∧ Turns J1 g1 tt1 (addsX P w D te) (wipe σ vs1) vs1 W1 N) vs
def innerX (e : Expr) (iter1 : Expr) (D : Addr) (env : Env) : Sem Unit :=
  eval iter1 env >>= fun x => standAt iter1.pos >>= fun _ => foldedSetIterable iter1 env x >>= fun x => holding [x] (pyIter x) >>= fun t => runOwn (.compStart e 1 t (.ref D) env) env >>= fun _ => pure ()
theorem turn_inner {elt tg iter tg1 iter1 : Expr} {ifs ifs1 : List Expr} {scope : Scope} {pos : Pos} {it D : Addr} {env : Env} : compTurn (.SetComp elt [⟨tg, iter, ifs, 0⟩, ⟨tg1, iter1, ifs1, 0⟩] scope pos) 0 (.ref it) (.ref D) env =
    turnText (.SetComp elt [⟨tg, iter, ifs, 0⟩, ⟨tg1, iter1, ifs1, 0⟩] scope pos) 0 tg iter.pos ifs (innerX (.SetComp elt [⟨tg, iter, ifs, 0⟩, ⟨tg1, iter1, ifs1, 0⟩] scope pos) iter1 D env) (.ref it) (.ref D) env := by
  rw [turnText]
  simp only [innerX, bind_assoc, pure_bind]
  rfl
theorem pe_scX2 {elt tg iter tg1 iter1 : Expr} {ifs ifs1 : List Expr} {scope : Scope} {own : List (Str × Nat)} {vs1 : List Nat} {pos : Pos} {wi wi1 : TI} {g g1 : TG} {tt tt1 : TT} {te : TE} (hc : X.calm = true) (hN : X.N.Nodup) (hi : PI X tg iter wi) (ok : BlkOk X.N X.env.scope scope own) (hv : ∀ i ∈ vs1, i ∈ own.map (·.2))
    (hg : InBlk X scope fun Y => PG Y tg g)
    (ht : InBlk X scope fun Y => PTs Y ifs tt)
    (hi1 : InBlk X scope fun Y => PI Y tg1 iter1 wi1)
    (hg1 : InBlk X scope fun Y => PG Y tg1 g1)
    (ht1 : InBlk X scope fun Y => PTs Y ifs1 tt1)
    (he : InBlk X scope fun Y => PE Y elt te) (hs : ∀ x, foldedSetIterable iter X.env x = pure x := by intro _; rfl) (hs1 : ∀ env x, foldedSetIterable iter1 env x = pure x := by intro _ _; rfl) :
    PE X (.SetComp elt [⟨tg, iter, ifs, 0⟩, ⟨tg1, iter1, ifs1, 0⟩] scope pos) (tScX2 X.prog X.w wi g tt wi1 g1 tt1 te (own.map (·.2)) vs1) := by
  refine set_block (work := innerX (.SetComp elt [⟨tg, iter, ifs, 0⟩, ⟨tg1, iter1, ifs1, 0⟩] scope pos) iter1) hc hN hi ok hg ht (fun _ _ _ => turn_inner) (fun s0 H0 C cl fp D pins σ H N s I h => ?_) hs
  refine wpAny_bind (thnF ((hi1 s0 H0 C cl fp).run pins s σ H _ I h) fun x s1 z => wpAny_bind (wpAny_standAt (wpAny_bind (wpAny_of_eq (hs1 _ x) (wpAny_bind (wpAny_holding (thnF z fun t s2 z => ?_)))))))
  obtain ⟨it, fp1, tn, J, H2, rfl, I2, T, st, f, W, ⟨m, w0⟩, tu⟩ := z
  refine wpAny_bind (wpAny_runOwn ?_)
  rw [Around.mark_none]
  exact clause_start rfl rfl (fun _ _ z => T.self X.A 0 _ _ _ st z) (clause_loop (Y := X.blk s0 H0 scope (compEnvC scope cl C X.env) fp) rfl hc (work := emitX elt D (compEnvC scope cl C X.env)) rfl T (fun b hb => ⟨H2, f b hb⟩) (hg1 _ _ _ _ _) (ht1 _ _ _ _ _)
    (fun pl σ' H' N' s' I' z => emits (Y := X.blk s0 H0 scope (compEnvC scope cl C X.env) fp) rfl (he _ _ _ _ _) I' z) tu (fun H' s' I' nx => wpAny_pure ⟨_, H', I', kept_less hv, nx⟩) (I2.weak (wipe_length _ _) (kept_wipe σ vs1)) st (fun b hb => (f b hb).1) w0)
end
end RM

set_option Elab.async false
set_option linter.all false
set_option maxRecDepth 100000
set_option maxHeartbeats 2000000
/-! sorted(a set of texts) -/
namespace RM
open PySem PySem.Spec PyProof.Rows L2 PySem.Froz
/-! ### texts among values -/
def Text (v : Value) : Prop := ∃ k u, v = .str k u
theorem texts_are : ∀ {l : List Value}, (∀ v ∈ l, Text v) → StrsAre l (l.map strOf)
  | [], _ => .nil
  | _ :: _, h => by
    obtain ⟨h1, h2⟩ := List.forall_mem_cons.mp h
    obtain ⟨k, u, rfl⟩ := h1
    exact .cons k u (texts_are h2)
/-- as many, and nothing lacks: the same -/
theorem perm_of_sub : ∀ {l m : List Str}, l.Nodup → (∀ k ∈ l, k ∈ m) → m.length ≤ l.length → m.Perm l
  | [], m, _, _, h => by rw [List.eq_nil_of_length_eq_zero (Nat.le_zero.mp h)]
  | a :: l, m, nd, sub, h => by
    have ha := sub a List.mem_cons_self
    have el := List.length_erase_of_mem ha
    have ep := List.length_pos_of_mem ha
    obtain ⟨na, nd⟩ := List.nodup_cons.mp nd
    refine (List.perm_cons_erase ha).trans ((perm_of_sub nd (fun k hk => ?_) ?_).cons a)
    · have ne : k ≠ a := by rintro rfl; exact na hk
      exact (List.mem_erase_of_ne ne).mpr (sub k (List.mem_cons_of_mem _ hk))
    · rw [List.length_cons] at h; omega
theorem Txs.values {P : Program} {w : World} {D : SD} {l : List Str} (F : Txs P w D l) {vs : List Value} (p : vs.Perm (D.1.toList.map (·.2))) : StrsAre vs (vs.map strOf) ∧ (vs.map strOf).Perm l := by
  have shape : ∀ {k : Str} {v : Value}, (strKind P w).is k v = true → ∃ u, v = .str k u := fun h => Value.isStrOf_shape h
  refine ⟨texts_are fun v hv => ?_, perm_of_sub F.nd (fun k hk => ?_) ?_⟩
  · obtain ⟨e, he, rfl⟩ := List.mem_map.mp (p.mem_iff.mp hv)
    obtain ⟨⟨k, h1, _⟩, _⟩ := F.ok.el e he
    exact ⟨k, shape h1⟩
  · obtain ⟨e, he, h1⟩ := (F.ok.mem k).mp hk
    obtain ⟨u, h2⟩ := shape h1
    exact List.mem_map.mpr ⟨.str k u, p.mem_iff.mpr (List.mem_map.mpr ⟨e, he, h2⟩), rfl⟩
  · rw [List.length_map, p.length_eq, List.length_map, Array.length_toList, F.ok.sz]
    exact Nat.le_refl _
/-! ### sorted, of whatever gives texts -/
section
variable {P : Program} {w : World} {A : Around} {E : Value → Shared → Prop} {s : Shared}
theorem sorted_texts {x : Value} {ks : List Str} {Q : Value → Shared → Prop} (few : ks.length ≤ 1000)
    (gives : wpAny (model P w) A.in1 (collect x) (fun vs s1 => StrsAre vs (vs.map strOf) ∧ (vs.map strOf).Perm ks ∧
      ∀ ys us h' c, StrsAre us ys → ys.Perm ks → sortedS ys = true → (∀ b o, s1.heap.get? b = some o → h'.get? b = some o) → h'.get? s1.heap.objs.size = some (seqObj "list" us.toArray c) → Q (.ref s1.heap.objs.size) { s1 with heap := h' }) E s) :
    wpAny (model P w) A (call (.builtin "sorted") [x]) Q E s := by
  refine Calls.call_function_entry kind_sorted plain_sorted entry_sorted (args_sorted1 _) ?_
  unfold Builtin.«sorted»
  refine wpAny_bind (m := checkCount "sorted" 1 1 _) (wpAny_pure (wpAny_bind (thn gives fun vs s1 z => ?_)))
  obtain ⟨hS, pk, q⟩ := z
  have sz : vs.length ≤ sizeLine := by
    have e := pk.length_eq
    rw [List.length_map] at e
    rw [e, sizeLine_eq]; omega
  refine wpAny_bind (wpAny_newList ?_ sz)
  have at_ : (s1.heap.push (seqObj "list" vs.toArray 0)).get? s1.heap.objs.size = some (seqObj "list" vs.toArray 0) := Heap.get?_push_size _ rfl
  refine wpAny_bind (wpAny_holding (wpAny_call_entry slot_list_sort ⟨_, at_, rfl⟩ entry_list_sort (list_sort_treeKAny strKind_oneLt at_ hS.keysOf (fun _ _ _ e => keyKind_strs (e ▸ hS)) sz fun st' hp hs => ⟨_, rfl, ?_⟩) (args_list_sort _)))
  obtain ⟨ys, h1, h2, h3⟩ := sorted_out_str hS hp hs
  obtain ⟨c, hc⟩ := sortedHeap_at (vs := vs) (out := (arrOf st').map (·.2)) at_
  refine wpAny_pure ⟨_, rfl, q ys _ _ c h1 (h2.trans pk) h3 (fun b o e => ?_) (by rw [Array.toArray_toList]; exact hc)⟩
  have lt := Heap.lt_size e
  rw [sortedHeap_old (Nat.ne_of_lt lt) (by rw [size_push']; exact Nat.lt_succ_of_lt lt)]
  exact Heap.get?_push_of_some _ e
end
def rSortX (P : Program) (w : World) : List V → Hp → VK → Prop := fun xs H Q => ∃ (a : Addr) (l : List Str), xs = [V.ref a] ∧ H a = some (SetX P w a l) ∧ l.length ≤ 1000 ∧
  ∀ (ks : List Str) (p : Addr), ks.Perm l → l.Nodup → sortedS ks = true → H p = none → Q (.ref p) (upd H p (.lst (ks.map V.str)))
theorem cr_sortX {X : Cx} (hc : X.calm = true) : CallR X (.builtin "sorted") (rSortX X.prog X.w) := by
  rintro pins s σ H xs us Q I r ⟨a, l, rfl, e, few, q⟩
  rw [Vals.ref1 r]
  obtain ⟨D, ho, F⟩ := Txs.of I e
  refine sorted_texts few (collect_set (A := X.A.in1) (es := D.1) (ep := D.2.1) (t := D.2.2) (I.ok.hd hc) ⟨_, ho, rfl, rfl⟩ F.ok.fit (by rw [F.ok.sz]; exact F.few) F.wk.1 F.wk.2 fun s1 vs keep _ gs os pm => ?_)
  obtain ⟨t1, t2⟩ := F.values pm
  refine ⟨t1, t2, fun ys us' h' c h1 h2 h3 keep' at_ => ?_⟩
  have I1 : Inv X pins σ H s1 := I.call' (ch := []) os (Un.kept keep) (I.hok.kept keep) (by rw [gs]; exact I.bare) (fun _ z => nomatch z)
  have sz : (ys.map V.str).length ≤ sizeLine := by rw [List.length_map, h2.length_eq, sizeLine_eq]; omega
  exact ⟨.ref s1.heap.objs.size, _, I1.laid (t' := s1.toks) (o := .lst (ys.map V.str)) keep' (Nat.le_refl _) ⟨sz, us', c, vals_of_strs h1, at_⟩, rfl, q ys _ h2 F.nd h3 (I1.hok.fresh (Nat.le_refl _))⟩
end RM

set_option Elab.async false
set_option linter.all false
set_option maxRecDepth 100000
set_option maxHeartbeats 4000000
/-! set(a list of texts) -/
namespace RM
open PySem PySem.Spec PyProof.Rows L2 PySem.Froz
/-- the texts r put to l, one after another -/
def pour : List Str → List Str → List Str
  | [], l => l
  | k :: r, l => pour r (insX k l)
theorem pour_mem {k : Str} : ∀ {r l : List Str}, k ∈ pour r l ↔ k ∈ r ∨ k ∈ l
  | [], l => by simp [pour]
  | a :: r, l => by rw [pour, pour_mem, insX_mem, List.mem_cons]; grind
theorem pour_len : ∀ {r l : List Str}, (pour r l).length ≤ r.length + l.length
  | [], l => by simp [pour]
  | a :: r, l => by
    have := pour_len (r := r) (l := insX a l)
    have := insX_len (k := a) (l := l)
    rw [pour, List.length_cons]
    omega
section
variable {P : Program} {w : World} {A : Around} {R : Result → Shared → Prop} {I S : Addr} {s : Shared}
/-- one turn of the builtin's loop -/
theorem loop_turn (h : wpAny (model P w) A.in1 (pyNext (.ref I)) (fun r s1 => match r with
      | none => R (.ok (.ret .none)) s1
      | some v => wpAny (model P w) A.in1 (setAdd S v) (fun _ s2 => codeAny (model P w) A (.builtin "set.update.loop" ⟨[.ref S, .ref I], []⟩) R s2) (fun e s' => R (.error e) s') s1) (fun e s' => R (.error e) s') s) :
    codeAny (model P w) A (.builtin "set.update.loop" ⟨[.ref S, .ref I], []⟩) R s := by
  refine codeAny_builtin F.entry_set_update_loop ?_
  rw [Around.under_plainId F.plain_set_update_loop _]
  show wpAny _ A.in1 (pyNext (.ref I) >>= _) _ _ s
  refine wpAny_bind (wpAny_mono h (fun r s1 z => ?_) fun _ _ z => z)
  match r, z with
  | none, z => exact wpAny_pure z
  | some v, z => exact wpAny_bind (wpAny_holding (wpAny_mono z (fun _ _ y => wpAny_pure ⟨plainId_quiet F.plain_set_update_loop _, y⟩) fun _ _ y => y))
variable {fp wr : List Addr} {G : Array GenState → Array GenState → Prop} {n : Nat} {Pv : Nat → Value → Prop} {St : Nat → Shared → Prop}
theorem loop_x (W : WalksS P w A.in1 I fp wr G n Pv St) (hS : S ∉ fp) {zs : List Str} (hn : n = zs.length) (hv : ∀ i v, Pv i v → ∃ k u, zs[i]? = some k ∧ v = .str k u) :
    ∀ (r : List Str) (i : Nat) (l : List Str) (s : Shared), zs.drop i = r → i ≤ zs.length → St i s → SX P w s.heap S l → l.length + r.length < scanBound →
      (∀ s', Moved (S :: wr) G s s' → SX P w s'.heap S (pour r l) → R (.ok (.ret .none)) s') → codeAny (model P w) A (.builtin "set.update.loop" ⟨[.ref S, .ref I], []⟩) R s := by
  have out : S ∉ wr := fun h => hS (W.sub _ h)
  have more : ∀ b ∈ wr, b ∈ S :: wr := fun _ hb => List.mem_cons_of_mem _ hb
  intro r
  induction r with
  | nil =>
    intro i l s hd hi st sx _ q
    have e : i = n := by have := List.drop_eq_nil_iff.mp hd; omega
    subst e
    refine loop_turn (W.done s _ _ st fun s1 mv => ?_)
    exact q s1 (mv.mono more) (sx.at fun o e => mv.heap S o out e)
  | cons z r ih =>
    intro i l s hd hi st sx room q
    rw [List.length_cons] at room
    have lt : i < n := by
      have := congrArg List.length hd
      rw [List.length_drop, List.length_cons] at this
      omega
    have hz : zs[i]? = some z := by rw [← List.head?_drop, hd]; rfl
    have hd' : zs.drop (i + 1) = r := by rw [← List.tail_drop, hd]; rfl
    refine loop_turn (W.item i s _ _ lt st fun v s1 hp st1 mv => ?_)
    obtain ⟨k, u, hk, rfl⟩ := hv i v hp
    obtain rfl : z = k := by rw [hz] at hk; exact Option.some.inj hk
    refine setAdd_x (sx.at fun o e => mv.heap S o out e) (by omega) fun _ h' sb sx2 => ?_
    have ne : ∀ b ∈ fp, b ≠ S := fun b hb e => hS (e ▸ hb)
    refine ih (i + 1) _ _ hd' (by omega) (W.frame _ s1 _ _ st1 (Nat.le_succ _) fun b hb o e => by rw [sb.2 b (ne b hb)]; exact e) sx2 (by have := insX_len (k := z) (l := l); omega) fun s2 mv2 sx3 => ?_
    refine q s2 (Moved.trans W.gtrans ((mv.mono more).then_heap (Nat.le_succ _) fun b o hb e => ?_) mv2) sx3
    rw [sb.2 b fun e => hb (e ▸ List.mem_cons_self)]
    exact e
end
section
variable {P : Program} {w : World} {A : Around} {E : Value → Shared → Prop} {s : Shared} {S l : Addr} {items : Array Value} {zs : List Str}
/-- the values of a list of texts, place by place -/
theorem text_at (ht : StrsAre items.toList zs) {i : Nat} {v : Value} (e : items[i]? = some v) : ∃ k u, zs[i]? = some k ∧ v = .str k u := by
  rw [← Array.getElem?_toList] at e
  obtain ⟨k, u, rfl⟩ := ht.all v (List.mem_of_getElem? e)
  refine ⟨k, u, ?_, rfl⟩
  rw [← ht.strs, List.getElem?_map, e]
  rfl
theorem no_set {a : Addr} {Q : Bool → Shared → Prop} (ty : s.TypeIs (.ref a) "list") (q : Q false s) : wpAny (model P w) A (Builtin.Frozenset.isAnySet (.ref a)) Q E s := by
  unfold Builtin.Frozenset.isAnySet
  refine wpAny_bind (wpAny_isInstance ty F.sub_list_set ?_)
  exact wpAny_isInstance ty F.sub_list_frozenset q
/-- an empty set is filled from a list of texts -/
theorem update_x {name : String} {Q : Unit → Shared → Prop} (hh : A.handled = none) (hS : s.heap.get? S = some (bareX w)) (hl : s.heap.IsList l items) (ht : StrsAre items.toList zs) (room : zs.length < scanBound)
    (q : ∀ s', (∀ b o, b ≠ S → s.heap.get? b = some o → s'.heap.get? b = some o) → s'.gens = s.gens → s'.drawn = s.drawn → s'.os = s.os → SX P w s'.heap S (pour zs []) → Q () s') :
    wpAny (model P w) A (Builtin.Frozenset.updateFrom name S (.ref l)) Q E s := by
  have sz : items.size = zs.length := by rw [← Array.length_toList]; exact ht.length
  have ltS := Heap.lt_size hS
  have ty : s.TypeIs (.ref l) "list" := let ⟨_, e, c, _⟩ := hl; ⟨_, e, c⟩
  have ltl : l < s.heap.objs.size := let ⟨_, e, _⟩ := hl; Heap.lt_size e
  have neSl : S ≠ l := by
    rintro rfl
    obtain ⟨o, ho, hcl, _⟩ := hl
    rw [hS] at ho
    cases ho
    exact absurd (show Value.type "set" = Value.type "list" from hcl) (by decide)
  unfold Builtin.Frozenset.updateFrom
  refine wpAny_bind (no_set ty ?_)
  rw [if_neg Bool.false_ne_true]
  refine wpAny_bind (wpAny_typeOf ty ?_)
  rw [if_neg (by decide)]
  refine wpAny_bind (wpAny_pyIter_list hl (wpAny_bind (wpAny_runValue ?_)))
  have W := (Walks.list (prog := P) (w := w) (A := A.in1) (by simp [hh]) s.heap.objs.size l (Nat.ne_of_lt ltl) items).toS
  refine loop_x W ?_ sz (fun i v e => text_at ht e) zs 0 [] _ rfl (Nat.zero_le _) ⟨⟨_, Heap.get?_push_size _ rfl, rfl, rfl⟩, hl.push _⟩ (sx_fresh (Heap.get?_push_of_some _ hS)) (by simp; omega) fun s' mv sx => ?_
  · simp only [List.mem_cons, List.not_mem_nil, or_false, not_or]
    exact ⟨Nat.ne_of_lt ltS, neSl⟩
  · refine wpAny_pure (q s' (fun b o ne e => mv.heap b o ?_ (Heap.get?_push_of_some _ e)) mv.gens mv.drawn mv.os sx)
    simp only [List.mem_cons, List.not_mem_nil, or_false, not_or]
    exact ⟨ne, Nat.ne_of_lt (Heap.lt_size e)⟩
theorem init_x {Q : PySem.Fin → Shared → Prop} (hh : A.handled = none) (hS : s.heap.get? S = some (bareX w)) (hl : s.heap.IsList l items) (ht : StrsAre items.toList zs) (room : zs.length < scanBound)
    (q : ∀ s', (∀ b o, b ≠ S → s.heap.get? b = some o → s'.heap.get? b = some o) → s'.gens = s.gens → s'.drawn = s.drawn → s'.os = s.os → SX P w s'.heap S (pour zs []) → Q (.done (.ret .none)) s') :
    wpAny (model P w) A (Builtin.«set.__init__» ⟨[.ref S, .ref l], []⟩) Q E s := by
  have ty : s.TypeIs (.ref S) "set" := ⟨_, hS, rfl⟩
  unfold Builtin.«set.__init__» noKeywords
  generalize hU : @Builtin.Frozenset.updateFrom = U
  wp_walk
  subst hU
  refine update_x hh hS hl ht room fun s' k1 k2 k3 k4 sx => ?_
  exact wpAny_pure (q s' k1 k2 k3 k4 sx)
/-- what `set(l)` hands back -/
theorem call_set_x {Q : Value → Shared → Prop} (hh : A.handled = none) (hl : s.heap.IsList l items) (ht : StrsAre items.toList zs) (room : zs.length < scanBound)
    (q : ∀ s', (∀ b o, s.heap.get? b = some o → s'.heap.get? b = some o) → s'.gens = s.gens → s'.drawn = s.drawn → s'.os = s.os → SX P w s'.heap s.heap.objs.size (pour zs []) → Q (.ref s.heap.objs.size) s') :
    wpAny (model P w) A (call (.type "set") [.ref l]) Q E s := by
  obtain ⟨_, _, line⟩ := F.called_set.mro
  have maker := F.called_set.made
  have below := F.called_set.sub
  have plain := F.called_set.notType
  have can := F.called_set.canCreate
  have count := F.typeCall_set_1 (.ref l)
  refine wpAny_call (codeAny_of_tree (wpAny_pure ⟨Code.quiet_builtin _ (by decide +kernel), codeAny_builtin F.entry_type_call ?_⟩))
  rw [Around.under_plain (weight_type_call_type "set" [.ref l] []) rfl]
  repeat (any_goals (first | assumption | wp_step))
  refine codeAny_mono (code_set_led1 (.ref l) (E := E) (Q₁ := fun v s1 => v = .ref s.heap.objs.size ∧ s1 = { s with heap := s.heap.push (bareX w) }) ⟨rfl, rfl⟩) fun r s1 z => ?_
  match r, z with
  | .error _, z => exact z
  | .ok .next, z => exact z.elim
  | .ok .brk, z => exact z.elim
  | .ok .cont, z => exact z.elim
  | .ok (.ret _), z =>
  obtain ⟨rfl, rfl⟩ := z
  have hS : (s.heap.push (bareX w)).get? s.heap.objs.size = some (bareX w) := Heap.get?_push_size _ rfl
  have ty : Shared.TypeIs { s with heap := s.heap.push (bareX w) } (.ref s.heap.objs.size) "set" := ⟨_, hS, rfl⟩
  have first := F.called_set.init.lookup
  have bound := F.called_set.init.bind (.ref s.heap.objs.size)
  repeat (any_goals (first | assumption | wp_step))
  refine codeAny_mono (codeAny_call_builtin (R := wants (fun v s2 => v = .none ∧ Q (.ref s.heap.objs.size) s2) E) F.called_set.init.plain F.entry_set_init (check_set_init_1 ty ?_)) fun r s2 z => ?_
  · refine init_x ?_ hS (hl.push _) ht room fun s2 k1 k2 k3 k4 sx => ⟨rfl, q s2 (fun b o e => k1 b o (Nat.ne_of_lt (Heap.lt_size e)) (Heap.get?_push_of_some _ e)) k2 k3 k4 sx⟩
    simp [hh]
  · match r, z with
    | .error _, z => exact z
    | .ok .next, z => exact z.elim
    | .ok .brk, z => exact z.elim
    | .ok .cont, z => exact z.elim
    | .ok (.ret _), z =>
    obtain ⟨rfl, qq⟩ := z
    repeat (any_goals (first | assumption | wp_step))
end
/-! ### over the tracked heap -/
def rSetL (P : Program) (w : World) (K : PySem.W.Frag) : List V → Hp → VK → Prop := fun xs H Q => ∃ (a : Addr) (zs : List Str), xs = [V.ref a] ∧ SqL K H a (zs.map V.str) ∧ zs.length + 1 < scanBound ∧
  ∀ (l : List Str) (p : Addr), l.length ≤ zs.length → (∀ k, k ∈ l ↔ k ∈ zs) → H p = none → Q (.ref p) (upd H p (SetX P w p l))
theorem cr_setL {X : Cx} (hc : X.calm = true) : CallR X (.type "set") (rSetL X.prog X.w X.K) := by
  rintro pins s σ H xs us Q I r ⟨a, zs, rfl, hs, hb, q⟩
  rw [Vals.ref1 r]
  obtain ⟨its, rv, hl, hz⟩ := I.list hs
  refine call_set_x (I.ok.hd hc) hl.isList (show StrsAre its.toArray.toList zs from rv.strs) (by omega) fun s' k1 k2 k3 k4 sx => ?_
  obtain ⟨h', _, _, t', _⟩ := s'
  cases k2
  cases k3
  cases k4
  have len := pour_len (r := zs) (l := [])
  exact ⟨.ref s.heap.objs.size, _, I.laid (t' := t') k1 (Nat.le_refl _) (setX_new sx), rfl, q _ _ (by simpa using len) (fun k => by rw [pour_mem]; simp) (I.hok.fresh (Nat.le_refl _))⟩
end RM

set_option Elab.async false
set_option linter.all false
set_option maxRecDepth 100000
set_option maxHeartbeats 2000000
/-! own == of instances -/
namespace RM
open PySem PySem.Spec PyProof.Rows L2
section
variable (P : Program) (w : World) (K : PySem.W.Frag) (mg : Str → Option Value) (base : Heap)
/-- an own special method, met by an operator -/
def Own (k : Nat) (C : Addr) (m : Str) (sp : Sp) : Prop :=
  ∃ (f : Addr) (fd : FuncData) (ps : List Str), FnOk P w K mg base CX0 k f fd ps sp ∧ PySem.W.findIn K (.ref C) m = some (some (.ref f)) ∧ PySem.W.isFn K (.ref f) = true ∧ Binds K fd ps []
end
section
variable {P : Program} {w : World} {K : PySem.W.Frag} {mg : Str → Option Value} {base : Heap} {k : Nat} {m x : Str} {C : Addr} {sp : Sp}
theorem own_0 {qual : Str} {st : Stmt} {N ps : List Str} (F : ∃ fd, FunD K m qual (defArgs st) (defBody st) (defScope st) [] [] (He.ma K (He.ga K x) m) fd) (hs : spcB K x m = true) (S : FnScope N ps (defScope st))
    (hb : ∀ (kV doc pm : Value) (an : Option Addr) (cdv ct : Value) (us : List Value), us.length = ps.length → bindArgs (PySem.W.fnOf m qual (defArgs st) (defBody st) (defScope st) .none kV doc pm an cdv ct) ⟨us, []⟩ = pure (ps.zip us))
    (len : ∀ vs H Q E, sp vs H Q E → vs.length = ps.length) (h : Body0 P w K mg base N qual st (He.ma K (He.ga K x) m) k sp) : Own P w K mg base (k + 1) (He.ga K x) m sp :=
  let ⟨fd, F⟩ := F
  ⟨_, fd, ps, fn_0 F S len h, (spcB_ok hs).1, (spcB_ok hs).2, F.bindsN hb⟩
end
theorem room64 {k : Nat} {A : Around} (hr : Room k A) : A.units + 64 < cLine := by have := hr.un; omega
theorem not_ni {z : V} {u : Value} (r : RelV z u) : u ≠ .notImplemented := by
  intro e
  subst e
  cases z <;> simp [L2.RelV] at r
/-- x == y, the two of one own class -/
def rOwn (C : Addr) (sp : Sp) : R2 := fun x y H Q => ∃ a b dx dy fs gs, x = .ref a ∧ y = .ref b ∧ H a = some (.ins C dx fs) ∧ H b = some (.ins C dy gs) ∧ sp [x, y] H Q E0
section
variable {X : Cx} {k j : Nat} {C : Addr} {sp : Sp}
/-- a def called with what stands for vs -/
theorem ask_def {f : Addr} {fd : FuncData} {ps : List Str} {pins : List (Addr × Obj)} {σ : L2.St} {H : Hp} {s : Shared} {vs : List V} {us : List Value} {Q : VK} (F : FnOk X.prog X.w X.K X.mg X.base CX0 k f fd ps sp) (B : Binds X.K fd ps []) (hr : Room k X.A)
    (I : Inv X pins σ H s) (r : Vals vs us) (same : us.length = vs.length) (h : sp vs H Q E0) : wpAny (model X.prog X.w) X.A (call (.ref f) us) (EP X pins σ Q) X.xe s := by
  have given := B s us I.kIn
  rw [List.append_nil] at given
  refine wpAny_call (codeAny_mono (F.run X.A X.stack s H ⟨us, []⟩ us vs _ E0 hr I.env0 (given (same.trans (F.len _ _ _ _ h))) r h) fun out s1 z => ?_)
  match out, z with
  | .ok (.ret _), z => exact I.after z
  | .error _, z => exact pass0 pins σ H s _ s1 I z
  | .ok .next, z => exact z.elim
  | .ok .brk, z => exact z.elim
  | .ok .cont, z => exact z.elim
theorem op_ownEq (c : Own X.prog X.w X.K X.mg X.base k C "__eq__" sp) (hr : Room j X.A) (hk : k ≤ j := by omega) : OpR X (compareOp .Eq) (rOwn C sp) := by
  rintro pins s σ H _ _ v u Q I rx ry ⟨a, b, dx, dy, fs, gs, rfl, rfl, ha, hb, hsp⟩
  obtain ⟨f, fd, ps, F, hs, hf, B⟩ := c
  cases rx
  cases ry
  obtain ⟨_, ia, _⟩ := ins_get I.hok ha
  obtain ⟨_, ib, _⟩ := ins_get I.hok hb
  obtain ⟨_, la, _⟩ := ia.look
  obtain ⟨_, lb, _⟩ := ib.look
  have un := (hr.mono hk).un
  refine PySem.W.cmp_K (op := .Eq) (tb := .ref C) (by omega) I.fr.choose_spec I.ok.mod.kin la lb.type (by simp [PySem.W.notFirst]) hs hf (thn (ask_def (vs := [.ref a, .ref b]) F B (hr.mono hk) I (.cons rfl (.cons rfl .nil)) rfl hsp) fun r s1 z => ?_)
  obtain ⟨z, H1, I1, rz, q⟩ := z
  have some := not_ni rz
  cases r <;> first | exact absurd rfl some | exact ⟨z, H1, I1, rz, q⟩
end
/-- a sequence as it stands in a block -/
theorem pi_seqA' {X : Cx} {K : PySem.W.Frag} {tg l : Expr} {tl : TE} (hK : X.K = K) (hl : PE X l tl) : PI X tg l (iSeqA K tl) := by subst hK; exact pi_seqA hl
end RM

set_option Elab.async false
set_option linter.all false
set_option maxRecDepth 100000
set_option maxHeartbeats 2000000
/-! own + of two own classes -/
namespace RM
open PySem PySem.Spec PyProof.Rows L2
section
open PySem.W
variable {M : Model} {h : Heap} {K : Frag} {C f : Addr} {nm : String} {r : Option Value}
/-- the class's slot is a def -/
theorem slot_def (X : K.In h) (hs : findIn K (.ref C) (PySem.dunder nm) = some (some (.ref f))) (hr : findIn K (.ref C) (dunderR nm) = some r) (rr : r = none ∨ ∃ g, r = some (.ref g)) : Looks M h (numberSlotInPython (.ref C) nm) true := by
  intro A Q E s k q
  unfold numberSlotInPython
  refine wpAny_bind (looks_findIn X hs A _ E s k ?_)
  refine wpAny_bind (wpAny_pure ?_)
  refine wpAny_bind (looks_findIn X hr A _ E s k ?_)
  rcases rr with rfl | ⟨g, rfl⟩
  · exact wpAny_bind (wpAny_pure (by rw [if_pos (by rfl)]; exact wpAny_pure q))
  · exact wpAny_bind (wpAny_pure (by rw [if_pos (by rfl)]; exact wpAny_pure q))
theorem self_first (hc : selfFirst K C = true) : ∃ cd rest, clsIn K C = some cd ∧ cd.mro = .ref C :: rest := by
  unfold selfFirst at hc
  cases e : clsIn K C with
  | none => rw [e] at hc; cases hc
  | some cd =>
    rw [e] at hc
    cases q : cd.mro with
    | nil => simp [q] at hc
    | cons a r =>
      have : a = .ref C := by simpa [q] using hc
      exact ⟨cd, r, rfl, by rw [q, this]⟩
theorem binop_two {prog : Program} {w : World} {A : Around} {E : Value → Shared → Prop} {s : Shared} {x L D fD : Addr} {h₀ : Heap} {m : Str → Option Value} {ox : Obj} {od : Option Obj} {b : Value} {rC rD : Option Value} {Q : Value → Shared → Prop}
    (F : Fr h₀ L s.heap m) (X₀ : K.In h₀) (I : InstAt s.heap x ox C od) (hb : Looks (model prog w) s.heap (typeOf b) (.ref D)) (hne : D ≠ C) (hc : selfFirst K C = true) (hd : selfFirst K D = true) (hs : findIn K (.ref C) (PySem.dunder "add") = some (some (.ref f)))
    (hf : isFn K (.ref f) = true) (hsD : findIn K (.ref D) (PySem.dunder "add") = some (some (.ref fD))) (hrC : findIn K (.ref C) (dunderR "add") = some rC) (hrD : findIn K (.ref D) (dunderR "add") = some rD) (rC' : rC = none ∨ ∃ g, rC = some (.ref g)) (rD' : rD = none ∨ ∃ g, rD = some (.ref g))
    (sub : subIn K (.ref D) (.ref C) = some false) (h : wpAny (model prog w) A (call (.ref f) [.ref x, b]) (PySem.W.CmpBack Q) E s) : wpAny (model prog w) A (binaryOp .Add (.ref x) b) Q E s := by
  have X := X₀.keeps F.keep
  obtain ⟨cd, rest, hcd, hm⟩ := self_first hc
  obtain ⟨dd, rest2, hdd, hm2⟩ := self_first hd
  unfold binaryOp
  refine wpAny_holding (wpAny_bind ?_)
  unfold binaryOp1
  refine wpAny_bind (I.type.here (wpAny_bind (hb.here (wpAny_bind ((fills_K X hcd hm hs).here ?_)))))
  have nb : (Value.ref C == Value.ref D) = false := by simpa using fun e => hne e.symm
  simp only [nb, Bool.false_eq_true, if_false]
  refine wpAny_bind ((fills_K X hdd hm2 hsD).here ?_)
  simp only [Bool.and_self, if_true]
  refine wpAny_bind ((looks_subIn X sub).here ?_)
  simp only [Bool.false_eq_true, if_false, Bool.not_false, Bool.and_self, if_true]
  refine wpAny_bind ((slot_def X hs hrC rC').here ?_)
  simp only [if_true]
  refine wpAny_bind ((slot_def X hsD hrD rD').here ?_)
  simp only [Bool.not_true, Bool.false_eq_true, if_false]
  refine wpAny_bind (m := tryMethod (.ref x) _ b) ?_
  unfold tryMethod
  refine wpAny_bind (special_fn X I hs (beq_iff_eq.mp hf) (wpAny_mono h (fun v s' hv => ?_) fun _ _ e => e))
  cases v <;> first | exact hv.elim | exact wpAny_pure (wpAny_pure (wpAny_pure hv))
end
/-- what the head tells for x + y, x of the class at C, y of the one at D -/
def twoB (K : PySem.W.Frag) (x y : Str) : Bool :=
  let C := He.ga K x; let D := He.ga K y
  PySem.W.selfFirst K C && (PySem.W.selfFirst K D && (decide (D ≠ C) && (spcB K x "__add__" && (spcB K y "__add__" && (decide (PySem.W.subIn K (.ref D) (.ref C) = some false) &&
    ((He.eqO (PySem.W.findIn K (.ref C) "__radd__") (some none) || spcB K x "__radd__") && (He.eqO (PySem.W.findIn K (.ref D) "__radd__") (some none) || spcB K y "__radd__")))))))
/-- x + y, two own classes; E: what is wanted of an exception -/
def rAddX (C D : Addr) (sp : Sp) (E : XK) : R2 := fun x y H Q => ∃ a b dx dy fs gs, x = .ref a ∧ y = .ref b ∧ H a = some (.ins C dx fs) ∧ H b = some (.ins D dy gs) ∧ sp [x, y] H Q E
/-- an own special method that may raise -/
def OwnX (P : Program) (w : World) (K : PySem.W.Frag) (mg : Str → Option Value) (base : Heap) (k : Nat) (C : Addr) (m : Str) (sp : Sp) : Prop :=
  ∃ (f : Addr) (fd : FuncData) (ps : List Str), FnOk P w K mg base (L2.CX P w) k f fd ps sp ∧ PySem.W.findIn K (.ref C) m = some (some (.ref f)) ∧ PySem.W.isFn K (.ref f) = true ∧ Binds K fd ps []
theorem own_X {P : Program} {w : World} {K : PySem.W.Frag} {mg : Str → Option Value} {base : Heap} {k : Nat} {m x : Str} {sp : Sp} {qual : Str} {st : Stmt} {N ps : List Str} (F : ∃ fd, FunD K m qual (defArgs st) (defBody st) (defScope st) [] [] (He.ma K (He.ga K x) m) fd) (hs : spcB K x m = true) (S : FnScope N ps (defScope st))
    (hb : ∀ (kV doc pm : Value) (an : Option Addr) (cdv ct : Value) (us : List Value), us.length = ps.length → bindArgs (PySem.W.fnOf m qual (defArgs st) (defBody st) (defScope st) .none kV doc pm an cdv ct) ⟨us, []⟩ = pure (ps.zip us))
    (len : ∀ vs H Q E, sp vs H Q E → vs.length = ps.length) (h : BodyX P w K mg base N qual st (He.ma K (He.ga K x) m) k sp) : OwnX P w K mg base (k + 1) (He.ga K x) m sp :=
  let ⟨fd, F⟩ := F
  ⟨_, fd, ps, F.ok S len h, (spcB_ok hs).1, (spcB_ok hs).2, F.bindsN hb⟩
theorem radd_of {K : PySem.W.Frag} {x : Str} (h : (He.eqO (PySem.W.findIn K (.ref (He.ga K x)) "__radd__") (some none) || spcB K x "__radd__") = true) :
    ∃ r, PySem.W.findIn K (.ref (He.ga K x)) (dunderR "add") = some r ∧ (r = none ∨ ∃ g, r = some (.ref g)) := by
  rcases Bool.or_eq_true_iff.mp h with h | h
  · exact ⟨none, He.eqO_ok h, .inl rfl⟩
  · exact ⟨_, (spcB_ok h).1, .inr ⟨_, rfl⟩⟩
theorem op_addX {X : Cx} {k j : Nat} {x y : Str} {sp : Sp} {E : XK} (two : twoB X.K x y = true) (c : OwnX X.prog X.w X.K X.mg X.base k (He.ga X.K x) "__add__" sp) (hx : Passes (L2.CX X.prog X.w) X E) (hr : Room j X.A) (hk : k ≤ j := by omega) :
    OpR X (binaryOp .Add) (rAddX (He.ga X.K x) (He.ga X.K y) sp E) := by
  rintro pins s σ H _ _ v u Q I rx ry ⟨a, b, dx, dy, fs, gs, rfl, rfl, ha, hb, hsp⟩
  obtain ⟨f, fd, ps, F, hs, hf, B⟩ := c
  obtain ⟨t1, two⟩ := He.ba two
  obtain ⟨t2, two⟩ := He.ba two
  obtain ⟨t3, two⟩ := He.ba two
  obtain ⟨t4, two⟩ := He.ba two
  obtain ⟨t5, two⟩ := He.ba two
  obtain ⟨t6, two⟩ := He.ba two
  obtain ⟨t7, t8⟩ := He.ba two
  obtain ⟨rC, hrC, kC⟩ := radd_of t7
  obtain ⟨rD, hrD, kD⟩ := radd_of t8
  cases rx
  cases ry
  obtain ⟨_, ia, _⟩ := ins_get I.hok ha
  obtain ⟨_, ib, _⟩ := ins_get I.hok hb
  obtain ⟨_, la, _⟩ := ia.look
  obtain ⟨_, lb, _⟩ := ib.look
  refine binop_two I.fr.choose_spec I.ok.mod.kin la lb.type (of_decide_eq_true t3) t1 t2 hs hf (spcB_ok t5).1 hrC hrD kC kD (of_decide_eq_true t6) ?_
  refine thn (run_fn (vs := [.ref a, .ref b]) (dvs := []) (ds := []) F (hr.mono hk) B .nil hx I (.cons rfl (.cons rfl .nil)) hsp) fun r s1 z => ?_
  obtain ⟨z, H1, I1, rz, q⟩ := z
  have some := not_ni rz
  cases r <;> first | exact absurd rfl some | exact ⟨z, H1, I1, rz, q⟩
end RM

set_option Elab.async false
set_option linter.all false
set_option maxRecDepth 100000
set_option maxHeartbeats 2000000
/-! own special methods: in, [], len, +=, [] =, + of one class -/
namespace RM
open PySem PySem.Spec PyProof.Rows L2
section
variable (P : Program) (w : World) (K : PySem.W.Frag) (mg : Str → Option Value) (base : Heap) (CX : CXT)
/-- an own special method, whatever it lets out -/
def OwnC (k : Nat) (C : Addr) (m : Str) (sp : Sp) : Prop :=
  ∃ (f : Addr) (fd : FuncData) (ps : List Str), FnOk P w K mg base CX k f fd ps sp ∧ PySem.W.findIn K (.ref C) m = some (some (.ref f)) ∧ PySem.W.isFn K (.ref f) = true ∧ Binds K fd ps [] ∧ PySem.W.fnIn K f = true
end
section
variable {P : Program} {w : World} {K : PySem.W.Frag} {mg : Str → Option Value} {base : Heap} {k : Nat} {m x : Str} {C : Addr} {sp : Sp} {CX : CXT}
theorem fn_in {q : Str} {ar : Arguments} {bd : List Stmt} {sc : Scope} {dv : List V} {kw : List (Str × V)} {f : Addr} {fd : FuncData} (F : FunD K m q ar bd sc dv kw f fd) : PySem.W.fnIn K f = true := by
  obtain ⟨_, _, _, _, _, _, _, _, _, _, _, lk, _⟩ := F.ex
  unfold PySem.W.fnIn
  rw [lk]
theorem own_C0 {qual : Str} {st : Stmt} {N ps : List Str} (F : ∃ fd, FunD K m qual (defArgs st) (defBody st) (defScope st) [] [] (He.ma K (He.ga K x) m) fd) (hs : spcB K x m = true) (S : FnScope N ps (defScope st))
    (hb : ∀ (kV doc pm : Value) (an : Option Addr) (cdv ct : Value) (us : List Value), us.length = ps.length → bindArgs (PySem.W.fnOf m qual (defArgs st) (defBody st) (defScope st) .none kV doc pm an cdv ct) ⟨us, []⟩ = pure (ps.zip us))
    (len : ∀ vs H Q E, sp vs H Q E → vs.length = ps.length) (h : Body0 P w K mg base N qual st (He.ma K (He.ga K x) m) k sp) : OwnC P w K mg base CX0 (k + 1) (He.ga K x) m sp :=
  let ⟨fd, F⟩ := F
  ⟨_, fd, ps, fn_0 F S len h, (spcB_ok hs).1, (spcB_ok hs).2, F.bindsN hb, fn_in F⟩
theorem own_CX {qual : Str} {st : Stmt} {N ps : List Str} (F : ∃ fd, FunD K m qual (defArgs st) (defBody st) (defScope st) [] [] (He.ma K (He.ga K x) m) fd) (hs : spcB K x m = true) (S : FnScope N ps (defScope st))
    (hb : ∀ (kV doc pm : Value) (an : Option Addr) (cdv ct : Value) (us : List Value), us.length = ps.length → bindArgs (PySem.W.fnOf m qual (defArgs st) (defBody st) (defScope st) .none kV doc pm an cdv ct) ⟨us, []⟩ = pure (ps.zip us))
    (len : ∀ vs H Q E, sp vs H Q E → vs.length = ps.length) (h : BodyX P w K mg base N qual st (He.ma K (He.ga K x) m) k sp) : OwnC P w K mg base (L2.CX P w) (k + 1) (He.ga K x) m sp :=
  let ⟨fd, F⟩ := F
  ⟨_, fd, ps, F.ok S len h, (spcB_ok hs).1, (spcB_ok hs).2, F.bindsN hb, fn_in F⟩
/-- nothing is let out where nothing is wished of it -/
theorem fn_calm {f : Addr} {fd : FuncData} {ps : List Str} (F : FnOk P w K mg base (L2.CX P w) k f fd ps sp) : FnOk P w K mg base CX0 k f fd ps (fun vs H Q _ => sp vs H Q E0) := by
  refine ⟨fun vs H Q E h => F.len vs H Q E0 h, fun A outer s H args us vs Q E hr e0 hb r h => ?_⟩
  refine codeAny_mono (F.run A outer s H args us vs Q E0 hr e0 hb r h) fun out s1 z => ?_
  match out, z with
  | .ok (.ret _), z => exact z
  | .ok .next, z => exact z
  | .ok .brk, z => exact z
  | .ok .cont, z => exact z
  | .error e, z =>
    obtain ⟨_, _, _, _, _, _, _, _, _, _, _, _, no⟩ := z
    exact no.elim
theorem Cal.calm {x : Str} (c : Cal P w K mg base (L2.CX P w) k x sp) : Cal P w K mg base CX0 k x (fun vs H Q _ => sp vs H Q E0) := let ⟨f, fd, ps, F, a, b, d⟩ := c; ⟨f, fd, ps, fn_calm F, a, b, d⟩
theorem Met.calm (c : Met P w K mg base (L2.CX P w) k C m sp) : Met P w K mg base CX0 k C m (fun vs H Q _ => sp vs H Q E0) := let ⟨f, fd, ps, a, b, F, d⟩ := c; ⟨f, fd, ps, a, b, fn_calm F, d⟩
theorem Mak.calm {x : Str} (c : Mak P w K mg base (L2.CX P w) k x C sp) : Mak P w K mg base CX0 k x C (fun vs H Q _ => sp vs H Q E0) := let ⟨f, fd, ps, a, F, b, d⟩ := c; ⟨f, fd, ps, a, fn_calm F, b, d⟩
theorem OwnC.calm (c : OwnC P w K mg base (L2.CX P w) k C m sp) : OwnC P w K mg base CX0 k C m (fun vs H Q _ => sp vs H Q E0) := let ⟨f, fd, ps, F, a⟩ := c; ⟨f, fd, ps, fn_calm F, a⟩
theorem OwnX.calm (c : OwnX P w K mg base k C m sp) : Own P w K mg base k C m (fun vs H Q _ => sp vs H Q E0) := let ⟨f, fd, ps, F, a⟩ := c; ⟨f, fd, ps, fn_calm F, a⟩
end
section
variable {X : Cx} {CX : CXT} {k j : Nat} {C : Addr} {sp : Sp} {E : XK}
/-- a def called one level in -/
theorem ask_in1 {f : Addr} {fd : FuncData} {ps : List Str} {pins : List (Addr × Obj)} {σ : L2.St} {H : Hp} {s : Shared} {vs : List V} {us : List Value} {Q : VK} (F : FnOk X.prog X.w X.K X.mg X.base CX k f fd ps sp) (B : Binds X.K fd ps []) (hr : Room (k + 1) X.A) (hx : Passes CX X E)
    (I : Inv X pins σ H s) (r : Vals vs us) (h : sp vs H Q E) : wpAny (model X.prog X.w) X.A.in1 (call (.ref f) us) (EP X pins σ Q) X.xe s := by
  have len : us.length = ps.length := by rw [← r.length]; exact F.len _ _ _ _ h
  have given := B s us I.kIn (by rw [List.append_nil]; exact len)
  rw [List.append_nil] at given
  refine wpAny_call (codeAny_mono (F.run X.A.in1 X.stack s H ⟨us, []⟩ us vs Q E hr.in1 I.env0.in1 given r h) fun out s1 z => ?_)
  match out, z with
  | .ok (.ret _), z => exact I.after z
  | .error e, z => exact hx pins σ H s e s1 I z
  | .ok .next, z => exact z.elim
  | .ok .brk, z => exact z.elim
  | .ok .cont, z => exact z.elim
/-- x in y, y of an own class -/
def rInO (C : Addr) (sp : Sp) (E : XK) (neg : Bool) : R2 := fun x y H Q => ∃ b dy gs, y = .ref b ∧ H b = some (.ins C dy gs) ∧ sp [y, x] H (fun v H' => ∃ c, v = .bl c ∧ Q (.bl (if neg then !c else c)) H') E
theorem op_inO (c : OwnC X.prog X.w X.K X.mg X.base CX k C "__contains__" sp) (hx : Passes CX X E) (hr : Room j X.A) (hk : k ≤ j := by omega) : OpR X (compareOp .In) (rInO C sp E false) := by
  rintro pins s σ H x _ v u Q I rx ry ⟨b, dy, gs, rfl, hb, h⟩
  obtain ⟨f, fd, ps, F, hs, hf, B, _⟩ := c
  cases ry
  obtain ⟨_, ib, _⟩ := ins_get I.hok hb
  obtain ⟨_, lb, _⟩ := ib.look
  refine PySem.W.in_K I.fr.choose_spec I.ok.mod.kin lb hs hf (thn (run_fn (vs := [.ref b, x]) (dvs := []) (ds := []) F (hr.mono hk) B .nil hx I (.cons rfl (.cons rx .nil)) h) fun r s1 z => ?_)
  obtain ⟨_, H1, I1, rz, c, rfl, q⟩ := z
  cases rz
  exact wpAny_truthy_bool ⟨.bl c, H1, I1, rfl, q⟩
theorem op_ninO (c : OwnC X.prog X.w X.K X.mg X.base CX k C "__contains__" sp) (hx : Passes CX X E) (hr : Room j X.A) (hk : k ≤ j := by omega) : OpR X (compareOp .NotIn) (rInO C sp E true) := by
  rintro pins s σ H x _ v u Q I rx ry ⟨b, dy, gs, rfl, hb, h⟩
  obtain ⟨f, fd, ps, F, hs, hf, B, _⟩ := c
  cases ry
  obtain ⟨_, ib, _⟩ := ins_get I.hok hb
  obtain ⟨_, lb, _⟩ := ib.look
  refine PySem.W.notIn_K I.fr.choose_spec I.ok.mod.kin lb hs hf (thn (run_fn (vs := [.ref b, x]) (dvs := []) (ds := []) F (hr.mono hk) B .nil hx I (.cons rfl (.cons rx .nil)) h) fun r s1 z => ?_)
  obtain ⟨_, H1, I1, rz, c, rfl, q⟩ := z
  cases rz
  exact wpAny_truthy_bool ⟨.bl (!c), H1, I1, rfl, q⟩
/-- a[b], a of an own class -/
def tGetO (C : Addr) (sp : Sp) (E : XK) (ta tb : TE) : TE := fun σ H Q => ta σ H fun x H1 => tb σ H1 fun y H2 => ∃ a dx fs, x = .ref a ∧ H2 a = some (.ins C dx fs) ∧ sp [x, y] H2 Q E
theorem pe_getO {a b : Expr} {ta tb : TE} {pos : Pos} (c : OwnC X.prog X.w X.K X.mg X.base CX k C "__getitem__" sp) (hx : Passes CX X E) (hr : Room j X.A) (ha : PE X a ta) (hb : PE X b tb) (hk : k + 1 ≤ j := by omega)
    (hsl : ∀ v u, subscripted b true v u = runValue (.builtin "lifetime.subscript" ⟨[v, u], []⟩) := by intro _ _; rfl) : PE X (.Subscript a b pos) (tGetO C sp E ta tb) := by
  obtain ⟨f, fd, ps, F, hs, hf, B, hn⟩ := c
  refine ⟨fun pins s σ H Q I h => ?_⟩
  refine Subscript_ (thn (ha.run pins s σ H _ I h) fun v s1 ⟨x, H1, I1, rx, h1⟩ => thn (hb.run pins s1 σ H1 _ I1 h1) fun u s2 ⟨y, H2, I2, ry, h2⟩ => ?_)
  obtain ⟨p, dx, fs, rfl, hp, h3⟩ := h2
  cases rx
  obtain ⟨_, ip, _⟩ := ins_get I2.hok hp
  obtain ⟨_, lp, _⟩ := ip.look
  exact PySem.W.sub_K I2.fr.choose_spec I2.ok.mod.kin lp hs hn hf (ask_in1 (vs := [.ref p, y]) F B (hr.mono hk) hx I2 (.cons rfl (.cons ry .nil)) h3) (hsl _ _)
/-- len(x), x of an own class -/
theorem call_lenO (c : OwnC X.prog X.w X.K X.mg X.base CX k C "__len__" sp) (hx : Passes CX X E) (hr : Room j X.A) (hk : k + 1 ≤ j := by omega) :
    CallR X (.builtin "len") (fun xs H Q => ∃ a dx fs, xs = [.ref a] ∧ H a = some (.ins C dx fs) ∧ sp [.ref a] H (fun v H' => ∃ n : Int, v = .int n ∧ 0 ≤ n ∧ n < 2 ^ 63 ∧ Q (.int n) H') E) := by
  rintro pins s σ H xs us Q I r ⟨a, dx, fs, rfl, ha, h⟩
  obtain ⟨f, fd, ps, F, hs, hf, B, _⟩ := c
  obtain rfl := Vals.ref1 r
  obtain ⟨_, ia, _⟩ := ins_get I.hok ha
  obtain ⟨_, la, _⟩ := ia.look
  refine PySem.W.len_K I.fr.choose_spec I.ok.mod.kin la hs hf (thn (ask_in1 (vs := [.ref a]) F B (hr.mono hk) hx I (.cons rfl .nil) h) fun r s1 z => ?_)
  obtain ⟨_, H1, I1, rz, n, rfl, n0, n1, q⟩ := z
  obtain ⟨t, rfl⟩ := rz
  exact ⟨⟨n0, n1⟩, .int n, H1, I1.tok _, ⟨_, rfl⟩, q⟩
/-- x += y, x of an own class -/
def rIadO (C : Addr) (sp : Sp) (E : XK) : R2 := fun x y H Q => ∃ a dx fs, x = .ref a ∧ H a = some (.ins C dx fs) ∧ sp [x, y] H Q E
theorem in_addO (c : OwnC X.prog X.w X.K X.mg X.base CX k C "__iadd__" sp) (sf : PySem.W.selfFirst X.K C = true) (hx : Passes CX X E) (hr : Room j X.A) (hk : k ≤ j := by omega) : InOp X .Add (rIadO C sp E) := by
  rintro pins s σ H _ y u v Q I rx ry ⟨a, dx, fs, rfl, ha, h⟩
  obtain ⟨f, fd, ps, F, hs, hf, B, _⟩ := c
  cases rx
  obtain ⟨_, ia, _⟩ := ins_get I.hok ha
  obtain ⟨_, la, _⟩ := ia.look
  refine PySem.W.ksp_inplace I.fr.choose_spec I.ok.mod.kin la sf hs hf (thn (run_fn (vs := [.ref a, y]) (dvs := []) (ds := []) F (hr.mono hk) B .nil hx I (.cons rfl (.cons ry .nil)) h) fun r s1 z => ?_)
  obtain ⟨z, H1, I1, rz, q⟩ := z
  have some := not_ni rz
  cases r <;> first | exact absurd rfl some | exact ⟨z, H1, I1, rz, q⟩
/-- x + y, both of one own class -/
def rAddS (C : Addr) (sp : Sp) (E : XK) : R2 := fun x y H Q => ∃ a b dx dy fs gs, x = .ref a ∧ y = .ref b ∧ H a = some (.ins C dx fs) ∧ H b = some (.ins C dy gs) ∧ sp [x, y] H Q E
theorem op_addS (c : OwnC X.prog X.w X.K X.mg X.base CX k C "__add__" sp) (sf : PySem.W.selfFirst X.K C = true) (hx : Passes CX X E) (hr : Room j X.A) (hk : k ≤ j := by omega) : OpR X (binaryOp .Add) (rAddS C sp E) := by
  rintro pins s σ H _ _ v u Q I rx ry ⟨a, b, dx, dy, fs, gs, rfl, rfl, ha, hb, h⟩
  obtain ⟨f, fd, ps, F, hs, hf, B, _⟩ := c
  cases rx
  cases ry
  obtain ⟨_, ia, _⟩ := ins_get I.hok ha
  obtain ⟨_, ib, _⟩ := ins_get I.hok hb
  obtain ⟨_, la, _⟩ := ia.look
  obtain ⟨_, lb, _⟩ := ib.look
  refine PySem.W.binop_K I.fr.choose_spec I.ok.mod.kin la lb.type sf hs hf (thn (run_fn (vs := [.ref a, .ref b]) (dvs := []) (ds := []) F (hr.mono hk) B .nil hx I (.cons rfl (.cons rfl .nil)) h) fun r s1 z => ?_)
  obtain ⟨z, H1, I1, rz, q⟩ := z
  have some := not_ni rz
  cases r <;> first | exact absurd rfl some | exact ⟨z, H1, I1, rz, q⟩
end
theorem two_first {K : PySem.W.Frag} {x y : Str} (h : twoB K x y = true) : PySem.W.selfFirst K (He.ga K x) = true ∧ PySem.W.selfFirst K (He.ga K y) = true := let ⟨a, b⟩ := He.ba h; ⟨a, (He.ba b).1⟩
theorem op_addG {X : Cx} {CX : CXT} {k j : Nat} {x y : Str} {sp : Sp} {E : XK} (two : twoB X.K x y = true) (c : ∃ (f : Addr) (fd : FuncData) (ps : List Str), FnOk X.prog X.w X.K X.mg X.base CX k f fd ps sp ∧ PySem.W.findIn X.K (.ref (He.ga X.K x)) "__add__" = some (some (.ref f)) ∧ PySem.W.isFn X.K (.ref f) = true ∧ Binds X.K fd ps []) (hx : Passes CX X E) (hr : Room j X.A) (hk : k ≤ j := by omega) :
    OpR X (binaryOp .Add) (rAddX (He.ga X.K x) (He.ga X.K y) sp E) := by
  rintro pins s σ H _ _ v u Q I rx ry ⟨a, b, dx, dy, fs, gs, rfl, rfl, ha, hb, hsp⟩
  obtain ⟨f, fd, ps, F, hs, hf, B⟩ := c
  obtain ⟨t1, two⟩ := He.ba two
  obtain ⟨t2, two⟩ := He.ba two
  obtain ⟨t3, two⟩ := He.ba two
  obtain ⟨t4, two⟩ := He.ba two
  obtain ⟨t5, two⟩ := He.ba two
  obtain ⟨t6, two⟩ := He.ba two
  obtain ⟨t7, t8⟩ := He.ba two
  obtain ⟨rC, hrC, kC⟩ := radd_of t7
  obtain ⟨rD, hrD, kD⟩ := radd_of t8
  cases rx
  cases ry
  obtain ⟨_, ia, _⟩ := ins_get I.hok ha
  obtain ⟨_, ib, _⟩ := ins_get I.hok hb
  obtain ⟨_, la, _⟩ := ia.look
  obtain ⟨_, lb, _⟩ := ib.look
  refine binop_two I.fr.choose_spec I.ok.mod.kin la lb.type (of_decide_eq_true t3) t1 t2 hs hf (spcB_ok t5).1 hrC hrD kC kD (of_decide_eq_true t6) ?_
  refine thn (run_fn (vs := [.ref a, .ref b]) (dvs := []) (ds := []) F (hr.mono hk) B .nil hx I (.cons rfl (.cons rfl .nil)) hsp) fun r s1 z => ?_
  obtain ⟨z, H1, I1, rz, q⟩ := z
  have some := not_ni rz
  cases r <;> first | exact absurd rfl some | exact ⟨z, H1, I1, rz, q⟩
end RM

set_option Elab.async false
set_option linter.all false
set_option maxRecDepth 100000
set_option maxHeartbeats 2000000
/-! x != y of an own class with == alone -/
namespace RM
open PySem PySem.Spec PyProof.Rows L2
section
open PySem.W
variable {prog : Program} {w : World} {A : Around} {E : Value → Shared → Prop} {s : Shared} {K : Frag} {x y C L f : Addr} {h₀ : Heap} {m : Str → Option Value} {ox : Obj} {od : Option Obj}
theorem check_ne {M : Model} {Q : Unit → Shared → Prop} (X : K.In s.heap) (I : InstAt s.heap x ox C od) (hsub : subIn K (.ref C) (.type "object") = some true) {b : Value} (hq : Q () s) :
    wpAny M A (checkBuiltinCall "object.__ne__" ⟨[.ref x, b], []⟩) Q E s := by
  have ha := F.cmpArgs_ne (.ref x) b
  simp only [checkBuiltinCall, F.cmpKind_ne, F.cmpSplit_ne]
  refine wpAny_bind ?_
  simp only [isInstance]
  refine wpAny_bind (I.type.here ((looks_subIn X hsub).here ?_))
  simp only [Bool.not_true, Bool.false_eq_true, if_false]
  cases hsig : Manifest.signature? "object.__ne__" with
  | none => exact wpAny_pure hq
  | some sig =>
    simp only [argsOk, hsig] at ha
    have h2 : Bind.checkArgs "object.__ne__" sig ⟨[.ref x, b], []⟩ = pure () := ha
    show wpAny M A (Bind.checkArgs "object.__ne__" sig ⟨[.ref x, b], []⟩) Q E _
    rw [h2]
    exact wpAny_pure hq
theorem objNe_own {Q : Fin → Shared → Prop} (X : K.In s.heap) (I : InstAt s.heap x ox C od) (he : findIn K (.ref C) "__eq__" = some (some (.ref f))) (hf : isFn K (.ref f) = true) (hu : A.units < cLine)
    (h : wpAny (model prog w) A (call (.ref f) [.ref x, .ref y]) (fun v s' => ∃ b, v = .bool b ∧ Q (.done (.ret (.bool (!b)))) s') E s) : wpAny (model prog w) A (Builtin.«object.__ne__» ⟨[.ref x, .ref y], []⟩) Q E s := by
  unfold Builtin.«object.__ne__»
  repeat (first
    | with_reducible refine wpAny_cRoomFor hu ?_
    | (refine wpAny_bind (m := callSpecialIfBound? (.ref x) (Str.ofString "__eq__") [.ref y]) (ifBound_K X I he hf (wpAny_mono h (fun r s' hr => by
          obtain ⟨b, rfl, hq⟩ := hr
          repeat (first | exact hq | exact wpAny_pure hq | exact wpAny_truthy_bool hq | (refine wpAny_bind (m := truthy (.bool _)) (wpAny_truthy_bool ?_)) | wp_step)) fun _ _ e => e)))
    | wp_step)
theorem ifBound_ne {Q : Option Value → Shared → Prop} (X : K.In s.heap) (I : InstAt s.heap x ox C od) (hs : findIn K (.ref C) "__ne__" = some (some (.builtin "object.__ne__")))
    (h : wpAny (model prog w) A (call (.builtin "object.__ne__") [.ref x, .ref y]) (fun v => Q (some v)) E s) : wpAny (model prog w) A (callSpecialIfBound? (.ref x) "__ne__" [.ref y]) Q E s := by
  simp only [callSpecialIfBound?, bindSpecialIfBound?]
  refine wpAny_holding (wpAny_bind (wpAny_bind (wpAny_bind (I.type.here ((looks_findIn X hs).here ?_)))))
  simp only [F.cmp_object.ne.bind]
  refine wpAny_bind (wpAny_askSetting (wpAny_ite ?_))
  have fin : wpAny (model prog w) A (call (.builtin "object.__ne__") ([.ref x] ++ [.ref y]) >>= fun v => pure (some v)) Q E s := wpAny_bind (wpAny_mono h (fun v s' h' => wpAny_pure h') fun _ _ h' => h')
  split
  · exact wpAny_bind (wpAny_pure (wpAny_pure (by exact fin)))
  · exact wpAny_tryCatch (wpAny_bind (wpAny_pure (wpAny_pure (by exact fin))))
theorem cmp_ne {Q : Value → Shared → Prop} (hu : A.units + 1 < cLine) (F : Fr h₀ L s.heap m) (X₀ : K.In h₀) (I : InstAt s.heap x ox C od) (hb : Looks (model prog w) s.heap (typeOf (.ref y)) (.ref C))
    (hs : findIn K (.ref C) "__ne__" = some (some (.builtin "object.__ne__"))) (he : findIn K (.ref C) "__eq__" = some (some (.ref f))) (hf : isFn K (.ref f) = true) (hsub : subIn K (.ref C) (.type "object") = some true)
    (h : wpAny (model prog w) A.in1 (call (.ref f) [.ref x, .ref y]) (fun v s' => ∃ b, v = .bool b ∧ Q (.bool (!b)) s') E s) : wpAny (model prog w) A (compareOp .NotEq (.ref x) (.ref y)) Q E s := by
  have X := X₀.keeps F.keep
  have one : wpAny (model prog w) A (tryCompare (.ref x) "__ne__" (.ref y)) (fun r s' => ∃ v, r = some v ∧ Q v s') E s := by
    unfold tryCompare
    refine wpAny_bind (ifBound_ne X I hs (wpAny_call (codeAny_call_builtin PySem.F.cmp_object.ne.plain PySem.F.cmpEntry_ne (check_ne X I hsub (objNe_own (A := A.in1) X I he hf hu (wpAny_mono h (fun v s' hv => ?_) fun _ _ e => e))))))
    obtain ⟨b, rfl, hq⟩ := hv
    first | exact ⟨b, rfl, wpAny_pure ⟨_, rfl, hq⟩⟩ | exact wpAny_pure ⟨_, rfl, hq⟩ | exact ⟨_, rfl, hq⟩
  unfold compareOp
  unfold richCompare
  simp only [oneThing_ref]
  refine wpAny_holding (wpAny_bind (wpAny_cRoomFor (Nat.lt_of_succ_lt hu) ?_))
  rw [cmpInfo_NotEq]
  dsimp only
  refine wpAny_bind (I.type.here (wpAny_bind (hb.here ?_)))
  rw [show (Value.ref C != Value.ref C) = false from by simp]
  simp only [Bool.false_eq_true, if_false]
  refine wpAny_bind (wpAny_pure ?_)
  simp only [Bool.false_eq_true, if_false]
  refine wpAny_bind (wpAny_mono one (fun r s' z => ?_) fun _ _ e => e)
  obtain ⟨v, rfl, hq⟩ := z
  exact wpAny_pure hq
end
def neB (K : PySem.W.Frag) (x : Str) : Bool := He.eqO (PySem.W.findIn K (.ref (He.ga K x)) "__ne__") (some (some (.builtin "object.__ne__"))) && decide (PySem.W.subIn K (.ref (He.ga K x)) (.type "object") = some true)
theorem neB_ok {K : PySem.W.Frag} {x : Str} (h : neB K x = true) : PySem.W.findIn K (.ref (He.ga K x)) "__ne__" = some (some (.builtin "object.__ne__")) ∧ PySem.W.subIn K (.ref (He.ga K x)) (.type "object") = some true :=
  let ⟨a, b⟩ := He.ba h
  ⟨He.eqO_ok a, of_decide_eq_true b⟩
/-- x != y, the two of one own class with == -/
def rOwnNe (C : Addr) (sp : Sp) : R2 := fun x y H Q => ∃ a b dx dy fs gs, x = .ref a ∧ y = .ref b ∧ H a = some (.ins C dx fs) ∧ H b = some (.ins C dy gs) ∧ sp [x, y] H (fun v H' => ∃ c, v = .bl c ∧ Q (.bl (!c)) H') E0
theorem op_ownNe {X : Cx} {k j : Nat} {x : Str} {sp : Sp} (n : neB X.K x = true) (c : Own X.prog X.w X.K X.mg X.base k (He.ga X.K x) "__eq__" sp) (hr : Room j X.A) (hk : k + 1 ≤ j := by omega) : OpR X (compareOp .NotEq) (rOwnNe (He.ga X.K x) sp) := by
  rintro pins s σ H _ _ v u Q I rx ry ⟨a, b, dx, dy, fs, gs, rfl, rfl, ha, hb, hsp⟩
  obtain ⟨f, fd, ps, F, hs, hf, B⟩ := c
  cases rx
  cases ry
  obtain ⟨_, ia, _⟩ := ins_get I.hok ha
  obtain ⟨_, ib, _⟩ := ins_get I.hok hb
  obtain ⟨_, la, _⟩ := ia.look
  obtain ⟨_, lb, _⟩ := ib.look
  have un := (hr.mono hk).un
  obtain ⟨n1, n2⟩ := neB_ok n
  refine cmp_ne (by omega) I.fr.choose_spec I.ok.mod.kin la lb.type n1 hs hf n2 (thn (ask_in1 (vs := [.ref a, .ref b]) F B (hr.mono hk) pass0 I (.cons rfl (.cons rfl .nil)) hsp) fun r s1 z => ?_)
  obtain ⟨z, H1, I1, rz, c, rfl, q⟩ := z
  cases rz
  exact ⟨c, rfl, .bl (!c), H1, I1, rfl, q⟩
end RM

set_option Elab.async false
set_option linter.all false
set_option maxRecDepth 100000
set_option maxHeartbeats 0
namespace RM
open PySem PySem.Spec PyProof.Rows L2
def top (i : Nat) : Stmt := PySem.Challenge.pw_readmoments_k19_texts_refused.main.body.getD i (.Pass ⟨0, 0, 0, 0⟩)
abbrev s_BadStatement_init : Stmt := inClass (top 5) 0
abbrev s_BadText_init : Stmt := inClass (top 6) 0
abbrev s_is_word : Stmt := top 11
abbrev s_is_value : Stmt := top 12
abbrev s_is_item : Stmt := top 17
abbrev s_is_statement : Stmt := top 18
abbrev s_bodies_of : Stmt := top 19
abbrev s_check_body : Stmt := top 20
abbrev s_as_tuples : Stmt := top 21
abbrev s_all_statements : Stmt := top 22
abbrev s_depth_of : Stmt := top 23
abbrev s_check_size : Stmt := top 24
abbrev s_Program_init : Stmt := inClass (top 25) 0
abbrev s_Program_eq : Stmt := inClass (top 25) 1
abbrev s_body_lines : Stmt := top 28
abbrev s_write : Stmt := top 29
abbrev s_number_of : Stmt := top 30
abbrev s_item_of : Stmt := top 31
abbrev s_plain_statement : Stmt := top 32
abbrev s_body_of : Stmt := top 33
abbrev s_read : Stmt := top 34
abbrev s_law_begin : Stmt := top 36
abbrev s_law_draw : Stmt := top 37
abbrev s_law_values : Stmt := top 38
abbrev s_law_changes : Stmt := top 39
abbrev s_law_variable : Stmt := top 40
abbrev s_law_plain : Stmt := top 41
abbrev s_law_body : Stmt := top 42
abbrev s_law_size : Stmt := top 43
abbrev s_law_prints : Stmt := top 44
abbrev s_law_short : Stmt := top 45
abbrev s_law_case : Stmt := top 46
abbrev s_law_lines : Stmt := top 47
abbrev s_law_number_good : Stmt := top 48
abbrev s_law_word_good : Stmt := top 49
abbrev s_law_kind : Stmt := top 50
abbrev s_law_wrong : Stmt := top 51
abbrev s_law_spoil : Stmt := top 52
abbrev s_law : Stmt := top 53
def d_BadStatement_init : He.DefD := ⟨("BadStatement", some "__init__"), "__init__", "BadStatement.__init__", defArgs s_BadStatement_init, defBody s_BadStatement_init, defScope s_BadStatement_init, [], []⟩
def d_BadText_init : He.DefD := ⟨("BadText", some "__init__"), "__init__", "BadText.__init__", defArgs s_BadText_init, defBody s_BadText_init, defScope s_BadText_init, [], []⟩
def d_is_word : He.DefD := ⟨("is_word", none), "is_word", "is_word", defArgs s_is_word, defBody s_is_word, defScope s_is_word, [], []⟩
def d_is_value : He.DefD := ⟨("is_value", none), "is_value", "is_value", defArgs s_is_value, defBody s_is_value, defScope s_is_value, [], []⟩
def d_is_item : He.DefD := ⟨("is_item", none), "is_item", "is_item", defArgs s_is_item, defBody s_is_item, defScope s_is_item, [], []⟩
def d_is_statement : He.DefD := ⟨("is_statement", none), "is_statement", "is_statement", defArgs s_is_statement, defBody s_is_statement, defScope s_is_statement, [], []⟩
def d_bodies_of : He.DefD := ⟨("bodies_of", none), "bodies_of", "bodies_of", defArgs s_bodies_of, defBody s_bodies_of, defScope s_bodies_of, [], []⟩
def d_check_body : He.DefD := ⟨("check_body", none), "check_body", "check_body", defArgs s_check_body, defBody s_check_body, defScope s_check_body, [], []⟩
def d_as_tuples : He.DefD := ⟨("as_tuples", none), "as_tuples", "as_tuples", defArgs s_as_tuples, defBody s_as_tuples, defScope s_as_tuples, [], []⟩
def d_all_statements : He.DefD := ⟨("all_statements", none), "all_statements", "all_statements", defArgs s_all_statements, defBody s_all_statements, defScope s_all_statements, [], []⟩
def d_depth_of : He.DefD := ⟨("depth_of", none), "depth_of", "depth_of", defArgs s_depth_of, defBody s_depth_of, defScope s_depth_of, [], []⟩
def d_check_size : He.DefD := ⟨("check_size", none), "check_size", "check_size", defArgs s_check_size, defBody s_check_size, defScope s_check_size, [], []⟩
def d_Program_init : He.DefD := ⟨("Program", some "__init__"), "__init__", "Program.__init__", defArgs s_Program_init, defBody s_Program_init, defScope s_Program_init, [], []⟩
def d_Program_eq : He.DefD := ⟨("Program", some "__eq__"), "__eq__", "Program.__eq__", defArgs s_Program_eq, defBody s_Program_eq, defScope s_Program_eq, [], []⟩
def d_body_lines : He.DefD := ⟨("body_lines", none), "body_lines", "body_lines", defArgs s_body_lines, defBody s_body_lines, defScope s_body_lines, [], []⟩
def d_write : He.DefD := ⟨("write", none), "write", "write", defArgs s_write, defBody s_write, defScope s_write, [], []⟩
def d_number_of : He.DefD := ⟨("number_of", none), "number_of", "number_of", defArgs s_number_of, defBody s_number_of, defScope s_number_of, [], []⟩
def d_item_of : He.DefD := ⟨("item_of", none), "item_of", "item_of", defArgs s_item_of, defBody s_item_of, defScope s_item_of, [], []⟩
def d_plain_statement : He.DefD := ⟨("plain_statement", none), "plain_statement", "plain_statement", defArgs s_plain_statement, defBody s_plain_statement, defScope s_plain_statement, [], []⟩
def d_body_of : He.DefD := ⟨("body_of", none), "body_of", "body_of", defArgs s_body_of, defBody s_body_of, defScope s_body_of, [], []⟩
def d_read : He.DefD := ⟨("read", none), "read", "read", defArgs s_read, defBody s_read, defScope s_read, [], []⟩
def d_law_begin : He.DefD := ⟨("_law_begin", none), "_law_begin", "_law_begin", defArgs s_law_begin, defBody s_law_begin, defScope s_law_begin, [], []⟩
def d_law_draw : He.DefD := ⟨("_law_draw", none), "_law_draw", "_law_draw", defArgs s_law_draw, defBody s_law_draw, defScope s_law_draw, [], []⟩
def d_law_values : He.DefD := ⟨("_law_values", none), "_law_values", "_law_values", defArgs s_law_values, defBody s_law_values, defScope s_law_values, [], []⟩
def d_law_changes : He.DefD := ⟨("_law_changes", none), "_law_changes", "_law_changes", defArgs s_law_changes, defBody s_law_changes, defScope s_law_changes, [], []⟩
def d_law_variable : He.DefD := ⟨("_law_variable", none), "_law_variable", "_law_variable", defArgs s_law_variable, defBody s_law_variable, defScope s_law_variable, [], []⟩
def d_law_plain : He.DefD := ⟨("_law_plain", none), "_law_plain", "_law_plain", defArgs s_law_plain, defBody s_law_plain, defScope s_law_plain, [], []⟩
def d_law_body : He.DefD := ⟨("_law_body", none), "_law_body", "_law_body", defArgs s_law_body, defBody s_law_body, defScope s_law_body, [], []⟩
def d_law_size : He.DefD := ⟨("_law_size", none), "_law_size", "_law_size", defArgs s_law_size, defBody s_law_size, defScope s_law_size, [], []⟩
def d_law_prints : He.DefD := ⟨("_law_prints", none), "_law_prints", "_law_prints", defArgs s_law_prints, defBody s_law_prints, defScope s_law_prints, [], []⟩
def d_law_short : He.DefD := ⟨("_law_short", none), "_law_short", "_law_short", defArgs s_law_short, defBody s_law_short, defScope s_law_short, [], []⟩
def d_law_case : He.DefD := ⟨("_law_case", none), "_law_case", "_law_case", defArgs s_law_case, defBody s_law_case, defScope s_law_case, [], []⟩
def d_law_lines : He.DefD := ⟨("_law_lines", none), "_law_lines", "_law_lines", defArgs s_law_lines, defBody s_law_lines, defScope s_law_lines, [], []⟩
def d_law_number_good : He.DefD := ⟨("_law_number_good", none), "_law_number_good", "_law_number_good", defArgs s_law_number_good, defBody s_law_number_good, defScope s_law_number_good, [], []⟩
def d_law_word_good : He.DefD := ⟨("_law_word_good", none), "_law_word_good", "_law_word_good", defArgs s_law_word_good, defBody s_law_word_good, defScope s_law_word_good, [], []⟩
def d_law_kind : He.DefD := ⟨("_law_kind", none), "_law_kind", "_law_kind", defArgs s_law_kind, defBody s_law_kind, defScope s_law_kind, [], []⟩
def d_law_wrong : He.DefD := ⟨("_law_wrong", none), "_law_wrong", "_law_wrong", defArgs s_law_wrong, defBody s_law_wrong, defScope s_law_wrong, [], []⟩
def d_law_spoil : He.DefD := ⟨("_law_spoil", none), "_law_spoil", "_law_spoil", defArgs s_law_spoil, defBody s_law_spoil, defScope s_law_spoil, [], []⟩
def d_law : He.DefD := ⟨("law", none), "law", "law", defArgs s_law, defBody s_law, defScope s_law, [], []⟩
def fnL : List He.DefD := [d_BadStatement_init, d_BadText_init, d_is_word, d_is_value, d_is_item, d_is_statement, d_bodies_of, d_check_body, d_as_tuples, d_all_statements, d_depth_of, d_check_size, d_Program_init, d_Program_eq, d_body_lines, d_write, d_number_of, d_item_of, d_plain_statement, d_body_of, d_read, d_law_begin, d_law_draw, d_law_values, d_law_changes, d_law_variable, d_law_plain, d_law_body, d_law_size, d_law_prints, d_law_short, d_law_case, d_law_lines, d_law_number_good, d_law_word_good, d_law_kind, d_law_wrong, d_law_spoil, d_law]
def fa0 : List He.Fa := [.glo "is_word", .glo "is_value", .glo "is_item", .glo "is_statement", .glo "bodies_of", .glo "check_body", .glo "as_tuples", .glo "all_statements", .glo "depth_of", .glo "check_size", .glo "body_lines", .glo "write", .glo "number_of", .glo "item_of", .glo "plain_statement", .glo "body_of", .glo "read", .glo "_law_begin", .glo "_law_draw", .glo "_law_values", .glo "_law_changes", .glo "_law_variable", .glo "_law_plain", .glo "_law_body", .glo "_law_size", .glo "_law_prints", .glo "_law_short", .glo "_law_case", .glo "_law_lines", .glo "_law_number_good"]
def fa1 : List He.Fa := [.glo "_law_word_good", .glo "_law_kind", .glo "_law_wrong", .glo "_law_spoil", .glo "law", .glo "MomentError", .glo "TooLong", .glo "TooDeep", .glo "BadStatement", .glo "BadText", .glo "Program", .free "NotImplemented", .free "all", .free "any", .free "bool", .free "enumerate", .free "int", .free "isinstance", .free "len", .free "list", .free "max", .free "range", .free "sorted", .free "str", .free "sum", .free "tuple", .free "zip", .str "LETTERS" "abcdefghijklmnopqrstuvwxyz", .int "LONGEST" 6, .int "GREATEST" 99]
def fa2 : List He.Fa := [.int "MOST" 60, .int "DEEPEST" 4, .glo "FORMS", .str "FIGURES" "0123456789", .cls "Program", .mkr "Program", .meth "Program" "__init__", .meth "Program" "__eq__", .meth "Program" "reads", .meth "Program" "keys_of", .meth "Program" "variables", .noat "Program" "body", .exc "MomentError", .exc "TooLong", .exc "TooDeep", .meth "BadStatement" "__init__", .noat "BadStatement" "path", .meth "BadText" "__init__", .noat "BadText" "line", .exm "MomentError" "BadText" false, .exm "MomentError" "MomentError" true, .exm "TooLong" "BadText" false, .exm "TooLong" "MomentError" true, .exm "TooDeep" "BadText" false, .exm "TooDeep" "MomentError" true, .exm "BadStatement" "BadText" false, .exm "BadStatement" "MomentError" true, .exm "BadText" "BadText" true, .exm "BadText" "MomentError" true]
def faL : List He.Fa := fa0 ++ fa1 ++ fa2
def tsL : List He.Tab := [(fun K => He.ga K "FORMS", ["read", "set", "copy", "print", "say", "wait", "if", "same", "repeat", "stop"])]
def tab_FORMS : List (Str × He.Dv) := [("read", .str "kk"), ("set", .str "kv"), ("copy", .str "kk"), ("print", .str "k"), ("say", .str "v"), ("wait", .str ""), ("if", .str "kvbb"), ("same", .str "kkbb"), ("repeat", .str "tb"), ("stop", .str "")]
def exL : List (PySem.W.Frag → Bool) := [fun K => He.valsB K (He.ga K "FORMS") tab_FORMS, fun K => insB K "Program", fun K => kitC K "Program" "Program" true, fun K => spcB K "Program" "__eq__", fun K => oexB K (He.ga K "BadStatement"), fun K => xfB K (He.ga K "BadStatement"), fun K => oexB K (He.ga K "BadText"), fun K => xfB K (He.ga K "BadText"), fun K => neB K "Program", fun K => keysB K (He.ga K "FORMS") ["read", "set", "copy", "print", "say", "wait", "if", "same", "repeat", "stop"], fun K => He.eqO (PySem.W.nsIn K (He.ga K "FORMS") "loop") (some none)]
def exB (K : PySem.W.Frag) : Bool := exL.all fun f => f K
def nm0 : List PySem.Str := ["_wall", "MomentError", "TooLong", "TooDeep", "BadStatement", "BadText", "LETTERS", "LONGEST", "GREATEST", "is_word", "is_value", "MOST", "DEEPEST", "FORMS", "is_item", "is_statement", "bodies_of", "check_body", "as_tuples", "all_statements", "depth_of", "check_size", "Program", "FIGURES", "body_lines", "write", "number_of", "item_of", "plain_statement", "body_of"]
def nm1 : List PySem.Str := ["read", "_law_begin", "_law_draw", "_law_values", "_law_changes", "_law_variable", "_law_plain", "_law_body", "_law_size", "_law_prints", "_law_short", "_law_case", "_law_lines", "_law_number_good", "_law_word_good", "_law_kind", "_law_wrong", "_law_spoil"]
def names : List PySem.Str := nm0 ++ nm1
abbrev R : PySem.W.OpenRow := PySem.W.OpenLaw.row PySem.Challenge.rw_readmoments_k19_texts_refused
abbrev hk : PySem.W.Hook := He.hookX 5 faL fnL tsL [] exB
def ob (s : PySem.W.SharedT) : He.AlX := He.obsX 5 faL fnL tsL [] exB (HandSHeadRun.getT s)
theorem ob_eq (s : PySem.W.SharedT) : ob s = hk.obs s.abs := He.obsX_eq (HandSHeadRun.getT_eq s)
theorem run0 (w : World) : HandSHeadRun.RunEq R (PySem.W.view R.prog [53]) hk ob 9000 names (w.withFollow "special-get-raises" false) := by
  intro os
  kernel_rfl
theorem run1 (w : World) : HandSHeadRun.RunEq R (PySem.W.view R.prog [53]) hk ob 9000 names (w.withFollow "special-get-raises" true) := by
  intro os
  kernel_rfl
theorem run (w : World) : HandSHeadRun.RunEq R (PySem.W.view R.prog [53]) hk ob 9000 names w := PySem.W.byRow2 "special-get-raises" (P := fun w => HandSHeadRun.RunEq R (PySem.W.view R.prog [53]) hk ob 9000 names w) run0 run1 w
end RM

set_option Elab.async false
set_option linter.all false
set_option maxRecDepth 100000
set_option maxHeartbeats 2000000
namespace RM
open PySem PySem.Spec PyProof.Rows L2
/-- what the top has left -/
structure Top (w : World) (K : PySem.W.Frag) (mg : Str → Option Value) : Prop where
  h : ∃ hp : Heap, K.In hp ∧ hp.Ns mainGlobals mg ∧ He.SaysX faL fnL tsL [] exB w hp K
section
variable {w : World} {K : PySem.W.Frag} {mg : Str → Option Value}
theorem Top.fa (T : Top w K mg) (i : Nat) {f : He.Fa} (h : faL[i]? = some f) : f.ok K = true := let ⟨_, _, _, c⟩ := T.h; c.t.d.fact i h
theorem Top.fd (T : Top w K mg) (i : Nat) {d : He.DefD} (h : fnL[i]? = some d) : ∃ fd, FunD K d.name d.qual d.params d.body d.scope (d.dvs K) (d.kws K) (He.fAd K d.at_) fd := let ⟨_, _, _, c⟩ := T.h; c.t.d.def_ i h
theorem g_is_word (T : Top w K mg) : mg "is_word" = some (.ref (He.ga K "is_word")) := let ⟨_, X, G, _⟩ := T.h; He.glo_ok X G (T.fa 0 rfl)
theorem g_is_value (T : Top w K mg) : mg "is_value" = some (.ref (He.ga K "is_value")) := let ⟨_, X, G, _⟩ := T.h; He.glo_ok X G (T.fa 1 rfl)
theorem g_is_item (T : Top w K mg) : mg "is_item" = some (.ref (He.ga K "is_item")) := let ⟨_, X, G, _⟩ := T.h; He.glo_ok X G (T.fa 2 rfl)
theorem g_is_statement (T : Top w K mg) : mg "is_statement" = some (.ref (He.ga K "is_statement")) := let ⟨_, X, G, _⟩ := T.h; He.glo_ok X G (T.fa 3 rfl)
theorem g_bodies_of (T : Top w K mg) : mg "bodies_of" = some (.ref (He.ga K "bodies_of")) := let ⟨_, X, G, _⟩ := T.h; He.glo_ok X G (T.fa 4 rfl)
theorem g_check_body (T : Top w K mg) : mg "check_body" = some (.ref (He.ga K "check_body")) := let ⟨_, X, G, _⟩ := T.h; He.glo_ok X G (T.fa 5 rfl)
theorem g_as_tuples (T : Top w K mg) : mg "as_tuples" = some (.ref (He.ga K "as_tuples")) := let ⟨_, X, G, _⟩ := T.h; He.glo_ok X G (T.fa 6 rfl)
theorem g_all_statements (T : Top w K mg) : mg "all_statements" = some (.ref (He.ga K "all_statements")) := let ⟨_, X, G, _⟩ := T.h; He.glo_ok X G (T.fa 7 rfl)
theorem g_depth_of (T : Top w K mg) : mg "depth_of" = some (.ref (He.ga K "depth_of")) := let ⟨_, X, G, _⟩ := T.h; He.glo_ok X G (T.fa 8 rfl)
theorem g_check_size (T : Top w K mg) : mg "check_size" = some (.ref (He.ga K "check_size")) := let ⟨_, X, G, _⟩ := T.h; He.glo_ok X G (T.fa 9 rfl)
theorem g_body_lines (T : Top w K mg) : mg "body_lines" = some (.ref (He.ga K "body_lines")) := let ⟨_, X, G, _⟩ := T.h; He.glo_ok X G (T.fa 10 rfl)
theorem g_write (T : Top w K mg) : mg "write" = some (.ref (He.ga K "write")) := let ⟨_, X, G, _⟩ := T.h; He.glo_ok X G (T.fa 11 rfl)
theorem g_number_of (T : Top w K mg) : mg "number_of" = some (.ref (He.ga K "number_of")) := let ⟨_, X, G, _⟩ := T.h; He.glo_ok X G (T.fa 12 rfl)
theorem g_item_of (T : Top w K mg) : mg "item_of" = some (.ref (He.ga K "item_of")) := let ⟨_, X, G, _⟩ := T.h; He.glo_ok X G (T.fa 13 rfl)
theorem g_plain_statement (T : Top w K mg) : mg "plain_statement" = some (.ref (He.ga K "plain_statement")) := let ⟨_, X, G, _⟩ := T.h; He.glo_ok X G (T.fa 14 rfl)
theorem g_body_of (T : Top w K mg) : mg "body_of" = some (.ref (He.ga K "body_of")) := let ⟨_, X, G, _⟩ := T.h; He.glo_ok X G (T.fa 15 rfl)
theorem g_read (T : Top w K mg) : mg "read" = some (.ref (He.ga K "read")) := let ⟨_, X, G, _⟩ := T.h; He.glo_ok X G (T.fa 16 rfl)
theorem g_law_begin (T : Top w K mg) : mg "_law_begin" = some (.ref (He.ga K "_law_begin")) := let ⟨_, X, G, _⟩ := T.h; He.glo_ok X G (T.fa 17 rfl)
theorem g_law_draw (T : Top w K mg) : mg "_law_draw" = some (.ref (He.ga K "_law_draw")) := let ⟨_, X, G, _⟩ := T.h; He.glo_ok X G (T.fa 18 rfl)
theorem g_law_values (T : Top w K mg) : mg "_law_values" = some (.ref (He.ga K "_law_values")) := let ⟨_, X, G, _⟩ := T.h; He.glo_ok X G (T.fa 19 rfl)
theorem g_law_changes (T : Top w K mg) : mg "_law_changes" = some (.ref (He.ga K "_law_changes")) := let ⟨_, X, G, _⟩ := T.h; He.glo_ok X G (T.fa 20 rfl)
theorem g_law_variable (T : Top w K mg) : mg "_law_variable" = some (.ref (He.ga K "_law_variable")) := let ⟨_, X, G, _⟩ := T.h; He.glo_ok X G (T.fa 21 rfl)
theorem g_law_plain (T : Top w K mg) : mg "_law_plain" = some (.ref (He.ga K "_law_plain")) := let ⟨_, X, G, _⟩ := T.h; He.glo_ok X G (T.fa 22 rfl)
theorem g_law_body (T : Top w K mg) : mg "_law_body" = some (.ref (He.ga K "_law_body")) := let ⟨_, X, G, _⟩ := T.h; He.glo_ok X G (T.fa 23 rfl)
theorem g_law_size (T : Top w K mg) : mg "_law_size" = some (.ref (He.ga K "_law_size")) := let ⟨_, X, G, _⟩ := T.h; He.glo_ok X G (T.fa 24 rfl)
theorem g_law_prints (T : Top w K mg) : mg "_law_prints" = some (.ref (He.ga K "_law_prints")) := let ⟨_, X, G, _⟩ := T.h; He.glo_ok X G (T.fa 25 rfl)
theorem g_law_short (T : Top w K mg) : mg "_law_short" = some (.ref (He.ga K "_law_short")) := let ⟨_, X, G, _⟩ := T.h; He.glo_ok X G (T.fa 26 rfl)
theorem g_law_case (T : Top w K mg) : mg "_law_case" = some (.ref (He.ga K "_law_case")) := let ⟨_, X, G, _⟩ := T.h; He.glo_ok X G (T.fa 27 rfl)
theorem g_law_lines (T : Top w K mg) : mg "_law_lines" = some (.ref (He.ga K "_law_lines")) := let ⟨_, X, G, _⟩ := T.h; He.glo_ok X G (T.fa 28 rfl)
theorem g_law_number_good (T : Top w K mg) : mg "_law_number_good" = some (.ref (He.ga K "_law_number_good")) := let ⟨_, X, G, _⟩ := T.h; He.glo_ok X G (T.fa 29 rfl)
theorem g_law_word_good (T : Top w K mg) : mg "_law_word_good" = some (.ref (He.ga K "_law_word_good")) := let ⟨_, X, G, _⟩ := T.h; He.glo_ok X G (T.fa 30 rfl)
theorem g_law_kind (T : Top w K mg) : mg "_law_kind" = some (.ref (He.ga K "_law_kind")) := let ⟨_, X, G, _⟩ := T.h; He.glo_ok X G (T.fa 31 rfl)
theorem g_law_wrong (T : Top w K mg) : mg "_law_wrong" = some (.ref (He.ga K "_law_wrong")) := let ⟨_, X, G, _⟩ := T.h; He.glo_ok X G (T.fa 32 rfl)
theorem g_law_spoil (T : Top w K mg) : mg "_law_spoil" = some (.ref (He.ga K "_law_spoil")) := let ⟨_, X, G, _⟩ := T.h; He.glo_ok X G (T.fa 33 rfl)
theorem g_law (T : Top w K mg) : mg "law" = some (.ref (He.ga K "law")) := let ⟨_, X, G, _⟩ := T.h; He.glo_ok X G (T.fa 34 rfl)
theorem g_MomentError (T : Top w K mg) : mg "MomentError" = some (.ref (He.ga K "MomentError")) := let ⟨_, X, G, _⟩ := T.h; He.glo_ok X G (T.fa 35 rfl)
theorem g_TooLong (T : Top w K mg) : mg "TooLong" = some (.ref (He.ga K "TooLong")) := let ⟨_, X, G, _⟩ := T.h; He.glo_ok X G (T.fa 36 rfl)
theorem g_TooDeep (T : Top w K mg) : mg "TooDeep" = some (.ref (He.ga K "TooDeep")) := let ⟨_, X, G, _⟩ := T.h; He.glo_ok X G (T.fa 37 rfl)
theorem g_BadStatement (T : Top w K mg) : mg "BadStatement" = some (.ref (He.ga K "BadStatement")) := let ⟨_, X, G, _⟩ := T.h; He.glo_ok X G (T.fa 38 rfl)
theorem g_BadText (T : Top w K mg) : mg "BadText" = some (.ref (He.ga K "BadText")) := let ⟨_, X, G, _⟩ := T.h; He.glo_ok X G (T.fa 39 rfl)
theorem g_Program (T : Top w K mg) : mg "Program" = some (.ref (He.ga K "Program")) := let ⟨_, X, G, _⟩ := T.h; He.glo_ok X G (T.fa 40 rfl)
theorem z_NotImplemented (T : Top w K mg) : mg "NotImplemented" = none := let ⟨_, X, G, _⟩ := T.h; He.free_ok X G (T.fa 41 rfl)
theorem z_all (T : Top w K mg) : mg "all" = none := let ⟨_, X, G, _⟩ := T.h; He.free_ok X G (T.fa 42 rfl)
theorem z_any (T : Top w K mg) : mg "any" = none := let ⟨_, X, G, _⟩ := T.h; He.free_ok X G (T.fa 43 rfl)
theorem z_bool (T : Top w K mg) : mg "bool" = none := let ⟨_, X, G, _⟩ := T.h; He.free_ok X G (T.fa 44 rfl)
theorem z_enumerate (T : Top w K mg) : mg "enumerate" = none := let ⟨_, X, G, _⟩ := T.h; He.free_ok X G (T.fa 45 rfl)
theorem z_int (T : Top w K mg) : mg "int" = none := let ⟨_, X, G, _⟩ := T.h; He.free_ok X G (T.fa 46 rfl)
theorem z_isinstance (T : Top w K mg) : mg "isinstance" = none := let ⟨_, X, G, _⟩ := T.h; He.free_ok X G (T.fa 47 rfl)
theorem z_len (T : Top w K mg) : mg "len" = none := let ⟨_, X, G, _⟩ := T.h; He.free_ok X G (T.fa 48 rfl)
theorem z_list (T : Top w K mg) : mg "list" = none := let ⟨_, X, G, _⟩ := T.h; He.free_ok X G (T.fa 49 rfl)
theorem z_max (T : Top w K mg) : mg "max" = none := let ⟨_, X, G, _⟩ := T.h; He.free_ok X G (T.fa 50 rfl)
theorem z_range (T : Top w K mg) : mg "range" = none := let ⟨_, X, G, _⟩ := T.h; He.free_ok X G (T.fa 51 rfl)
theorem z_sorted (T : Top w K mg) : mg "sorted" = none := let ⟨_, X, G, _⟩ := T.h; He.free_ok X G (T.fa 52 rfl)
theorem z_str (T : Top w K mg) : mg "str" = none := let ⟨_, X, G, _⟩ := T.h; He.free_ok X G (T.fa 53 rfl)
theorem z_sum (T : Top w K mg) : mg "sum" = none := let ⟨_, X, G, _⟩ := T.h; He.free_ok X G (T.fa 54 rfl)
theorem z_tuple (T : Top w K mg) : mg "tuple" = none := let ⟨_, X, G, _⟩ := T.h; He.free_ok X G (T.fa 55 rfl)
theorem z_zip (T : Top w K mg) : mg "zip" = none := let ⟨_, X, G, _⟩ := T.h; He.free_ok X G (T.fa 56 rfl)
theorem i_LETTERS (T : Top w K mg) : ∃ t, mg "LETTERS" = some (.str "abcdefghijklmnopqrstuvwxyz" t) := let ⟨_, X, G, _⟩ := T.h; He.str_ok X G (T.fa 57 rfl)
theorem i_LONGEST (T : Top w K mg) : ∃ t, mg "LONGEST" = some (.int 6 t) := let ⟨_, X, G, _⟩ := T.h; He.int_ok X G (T.fa 58 rfl)
theorem i_GREATEST (T : Top w K mg) : ∃ t, mg "GREATEST" = some (.int 99 t) := let ⟨_, X, G, _⟩ := T.h; He.int_ok X G (T.fa 59 rfl)
theorem i_MOST (T : Top w K mg) : ∃ t, mg "MOST" = some (.int 60 t) := let ⟨_, X, G, _⟩ := T.h; He.int_ok X G (T.fa 60 rfl)
theorem i_DEEPEST (T : Top w K mg) : ∃ t, mg "DEEPEST" = some (.int 4 t) := let ⟨_, X, G, _⟩ := T.h; He.int_ok X G (T.fa 61 rfl)
theorem g_FORMS (T : Top w K mg) : mg "FORMS" = some (.ref (He.ga K "FORMS")) := let ⟨_, X, G, _⟩ := T.h; He.glo_ok X G (T.fa 62 rfl)
theorem i_FIGURES (T : Top w K mg) : ∃ t, mg "FIGURES" = some (.str "0123456789" t) := let ⟨_, X, G, _⟩ := T.h; He.str_ok X G (T.fa 63 rfl)
theorem k_Program (T : Top w K mg) : Cls K (He.ga K "Program") := He.cls_ok (T.fa 64 rfl)
theorem mk_Program (T : Top w K mg) : Mk K (He.ga K "Program") (He.ma K (He.ga K "Program") "__init__") := He.mkr_ok (T.fa 65 rfl)
theorem me_Program_init (T : Top w K mg) : Meth K (He.ga K "Program") "__init__" (He.ma K (He.ga K "Program") "__init__") := He.meth_ok (T.fa 66 rfl)
theorem me_Program_eq (T : Top w K mg) : Meth K (He.ga K "Program") "__eq__" (He.ma K (He.ga K "Program") "__eq__") := He.meth_ok (T.fa 67 rfl)
theorem me_Program_reads (T : Top w K mg) : Meth K (He.ga K "Program") "reads" (He.ma K (He.ga K "Program") "reads") := He.meth_ok (T.fa 68 rfl)
theorem me_Program_keys_of (T : Top w K mg) : Meth K (He.ga K "Program") "keys_of" (He.ma K (He.ga K "Program") "keys_of") := He.meth_ok (T.fa 69 rfl)
theorem me_Program_variables (T : Top w K mg) : Meth K (He.ga K "Program") "variables" (He.ma K (He.ga K "Program") "variables") := He.meth_ok (T.fa 70 rfl)
theorem na_Program_body (T : Top w K mg) : NoAttr K (He.ga K "Program") "body" := He.noat_ok (T.fa 71 rfl)
theorem xc_MomentError (T : Top w K mg) : PySem.W.excIn K (He.ga K "MomentError") He.veBase "ValueError.__new__" = true ∧ PySem.W.keepIn K (.ref (He.ga K "MomentError")) = true ∧ PySem.W.subIn K (.ref (He.ga K "MomentError")) (.type "BaseException") = some true ∧ PySem.W.typeIn K (.ref (He.ga K "MomentError")) = some (.type "type") := He.exc_ok (T.fa 72 rfl)
theorem xc_TooLong (T : Top w K mg) : PySem.W.excIn K (He.ga K "TooLong") He.veBase "ValueError.__new__" = true ∧ PySem.W.keepIn K (.ref (He.ga K "TooLong")) = true ∧ PySem.W.subIn K (.ref (He.ga K "TooLong")) (.type "BaseException") = some true ∧ PySem.W.typeIn K (.ref (He.ga K "TooLong")) = some (.type "type") := He.exc_ok (T.fa 73 rfl)
theorem xc_TooDeep (T : Top w K mg) : PySem.W.excIn K (He.ga K "TooDeep") He.veBase "ValueError.__new__" = true ∧ PySem.W.keepIn K (.ref (He.ga K "TooDeep")) = true ∧ PySem.W.subIn K (.ref (He.ga K "TooDeep")) (.type "BaseException") = some true ∧ PySem.W.typeIn K (.ref (He.ga K "TooDeep")) = some (.type "type") := He.exc_ok (T.fa 74 rfl)
theorem me_BadStatement_init (T : Top w K mg) : Meth K (He.ga K "BadStatement") "__init__" (He.ma K (He.ga K "BadStatement") "__init__") := He.meth_ok (T.fa 75 rfl)
theorem na_BadStatement_path (T : Top w K mg) : NoAttr K (He.ga K "BadStatement") "path" := He.noat_ok (T.fa 76 rfl)
theorem me_BadText_init (T : Top w K mg) : Meth K (He.ga K "BadText") "__init__" (He.ma K (He.ga K "BadText") "__init__") := He.meth_ok (T.fa 77 rfl)
theorem na_BadText_line (T : Top w K mg) : NoAttr K (He.ga K "BadText") "line" := He.noat_ok (T.fa 78 rfl)
theorem xm_MomentError_BadText (T : Top w K mg) : PySem.W.exmOne K (.ref (He.ga K "MomentError")) (.ref (He.ga K "BadText")) = some false := He.exm_ok (T.fa 79 rfl)
theorem xm_MomentError_MomentError (T : Top w K mg) : PySem.W.exmOne K (.ref (He.ga K "MomentError")) (.ref (He.ga K "MomentError")) = some true := He.exm_ok (T.fa 80 rfl)
theorem xm_TooLong_BadText (T : Top w K mg) : PySem.W.exmOne K (.ref (He.ga K "TooLong")) (.ref (He.ga K "BadText")) = some false := He.exm_ok (T.fa 81 rfl)
theorem xm_TooLong_MomentError (T : Top w K mg) : PySem.W.exmOne K (.ref (He.ga K "TooLong")) (.ref (He.ga K "MomentError")) = some true := He.exm_ok (T.fa 82 rfl)
theorem xm_TooDeep_BadText (T : Top w K mg) : PySem.W.exmOne K (.ref (He.ga K "TooDeep")) (.ref (He.ga K "BadText")) = some false := He.exm_ok (T.fa 83 rfl)
theorem xm_TooDeep_MomentError (T : Top w K mg) : PySem.W.exmOne K (.ref (He.ga K "TooDeep")) (.ref (He.ga K "MomentError")) = some true := He.exm_ok (T.fa 84 rfl)
theorem xm_BadStatement_BadText (T : Top w K mg) : PySem.W.exmOne K (.ref (He.ga K "BadStatement")) (.ref (He.ga K "BadText")) = some false := He.exm_ok (T.fa 85 rfl)
theorem xm_BadStatement_MomentError (T : Top w K mg) : PySem.W.exmOne K (.ref (He.ga K "BadStatement")) (.ref (He.ga K "MomentError")) = some true := He.exm_ok (T.fa 86 rfl)
theorem xm_BadText_BadText (T : Top w K mg) : PySem.W.exmOne K (.ref (He.ga K "BadText")) (.ref (He.ga K "BadText")) = some true := He.exm_ok (T.fa 87 rfl)
theorem xm_BadText_MomentError (T : Top w K mg) : PySem.W.exmOne K (.ref (He.ga K "BadText")) (.ref (He.ga K "MomentError")) = some true := He.exm_ok (T.fa 88 rfl)
theorem f_BadStatement_init (T : Top w K mg) : ∃ fd, FunD K "__init__" "BadStatement.__init__" (defArgs s_BadStatement_init) (defBody s_BadStatement_init) (defScope s_BadStatement_init) [] [] (He.ma K (He.ga K "BadStatement") "__init__") fd := T.fd 0 (d := d_BadStatement_init) rfl
theorem f_BadText_init (T : Top w K mg) : ∃ fd, FunD K "__init__" "BadText.__init__" (defArgs s_BadText_init) (defBody s_BadText_init) (defScope s_BadText_init) [] [] (He.ma K (He.ga K "BadText") "__init__") fd := T.fd 1 (d := d_BadText_init) rfl
theorem f_is_word (T : Top w K mg) : ∃ fd, FunD K "is_word" "is_word" (defArgs s_is_word) (defBody s_is_word) (defScope s_is_word) [] [] (He.ga K "is_word") fd := T.fd 2 (d := d_is_word) rfl
theorem f_is_value (T : Top w K mg) : ∃ fd, FunD K "is_value" "is_value" (defArgs s_is_value) (defBody s_is_value) (defScope s_is_value) [] [] (He.ga K "is_value") fd := T.fd 3 (d := d_is_value) rfl
theorem f_is_item (T : Top w K mg) : ∃ fd, FunD K "is_item" "is_item" (defArgs s_is_item) (defBody s_is_item) (defScope s_is_item) [] [] (He.ga K "is_item") fd := T.fd 4 (d := d_is_item) rfl
theorem f_is_statement (T : Top w K mg) : ∃ fd, FunD K "is_statement" "is_statement" (defArgs s_is_statement) (defBody s_is_statement) (defScope s_is_statement) [] [] (He.ga K "is_statement") fd := T.fd 5 (d := d_is_statement) rfl
theorem f_bodies_of (T : Top w K mg) : ∃ fd, FunD K "bodies_of" "bodies_of" (defArgs s_bodies_of) (defBody s_bodies_of) (defScope s_bodies_of) [] [] (He.ga K "bodies_of") fd := T.fd 6 (d := d_bodies_of) rfl
theorem f_check_body (T : Top w K mg) : ∃ fd, FunD K "check_body" "check_body" (defArgs s_check_body) (defBody s_check_body) (defScope s_check_body) [] [] (He.ga K "check_body") fd := T.fd 7 (d := d_check_body) rfl
theorem f_as_tuples (T : Top w K mg) : ∃ fd, FunD K "as_tuples" "as_tuples" (defArgs s_as_tuples) (defBody s_as_tuples) (defScope s_as_tuples) [] [] (He.ga K "as_tuples") fd := T.fd 8 (d := d_as_tuples) rfl
theorem f_all_statements (T : Top w K mg) : ∃ fd, FunD K "all_statements" "all_statements" (defArgs s_all_statements) (defBody s_all_statements) (defScope s_all_statements) [] [] (He.ga K "all_statements") fd := T.fd 9 (d := d_all_statements) rfl
theorem f_depth_of (T : Top w K mg) : ∃ fd, FunD K "depth_of" "depth_of" (defArgs s_depth_of) (defBody s_depth_of) (defScope s_depth_of) [] [] (He.ga K "depth_of") fd := T.fd 10 (d := d_depth_of) rfl
theorem f_check_size (T : Top w K mg) : ∃ fd, FunD K "check_size" "check_size" (defArgs s_check_size) (defBody s_check_size) (defScope s_check_size) [] [] (He.ga K "check_size") fd := T.fd 11 (d := d_check_size) rfl
theorem f_Program_init (T : Top w K mg) : ∃ fd, FunD K "__init__" "Program.__init__" (defArgs s_Program_init) (defBody s_Program_init) (defScope s_Program_init) [] [] (He.ma K (He.ga K "Program") "__init__") fd := T.fd 12 (d := d_Program_init) rfl
theorem f_Program_eq (T : Top w K mg) : ∃ fd, FunD K "__eq__" "Program.__eq__" (defArgs s_Program_eq) (defBody s_Program_eq) (defScope s_Program_eq) [] [] (He.ma K (He.ga K "Program") "__eq__") fd := T.fd 13 (d := d_Program_eq) rfl
theorem f_body_lines (T : Top w K mg) : ∃ fd, FunD K "body_lines" "body_lines" (defArgs s_body_lines) (defBody s_body_lines) (defScope s_body_lines) [] [] (He.ga K "body_lines") fd := T.fd 14 (d := d_body_lines) rfl
theorem f_write (T : Top w K mg) : ∃ fd, FunD K "write" "write" (defArgs s_write) (defBody s_write) (defScope s_write) [] [] (He.ga K "write") fd := T.fd 15 (d := d_write) rfl
theorem f_number_of (T : Top w K mg) : ∃ fd, FunD K "number_of" "number_of" (defArgs s_number_of) (defBody s_number_of) (defScope s_number_of) [] [] (He.ga K "number_of") fd := T.fd 16 (d := d_number_of) rfl
theorem f_item_of (T : Top w K mg) : ∃ fd, FunD K "item_of" "item_of" (defArgs s_item_of) (defBody s_item_of) (defScope s_item_of) [] [] (He.ga K "item_of") fd := T.fd 17 (d := d_item_of) rfl
theorem f_plain_statement (T : Top w K mg) : ∃ fd, FunD K "plain_statement" "plain_statement" (defArgs s_plain_statement) (defBody s_plain_statement) (defScope s_plain_statement) [] [] (He.ga K "plain_statement") fd := T.fd 18 (d := d_plain_statement) rfl
theorem f_body_of (T : Top w K mg) : ∃ fd, FunD K "body_of" "body_of" (defArgs s_body_of) (defBody s_body_of) (defScope s_body_of) [] [] (He.ga K "body_of") fd := T.fd 19 (d := d_body_of) rfl
theorem f_read (T : Top w K mg) : ∃ fd, FunD K "read" "read" (defArgs s_read) (defBody s_read) (defScope s_read) [] [] (He.ga K "read") fd := T.fd 20 (d := d_read) rfl
theorem f_law_begin (T : Top w K mg) : ∃ fd, FunD K "_law_begin" "_law_begin" (defArgs s_law_begin) (defBody s_law_begin) (defScope s_law_begin) [] [] (He.ga K "_law_begin") fd := T.fd 21 (d := d_law_begin) rfl
theorem f_law_draw (T : Top w K mg) : ∃ fd, FunD K "_law_draw" "_law_draw" (defArgs s_law_draw) (defBody s_law_draw) (defScope s_law_draw) [] [] (He.ga K "_law_draw") fd := T.fd 22 (d := d_law_draw) rfl
theorem f_law_values (T : Top w K mg) : ∃ fd, FunD K "_law_values" "_law_values" (defArgs s_law_values) (defBody s_law_values) (defScope s_law_values) [] [] (He.ga K "_law_values") fd := T.fd 23 (d := d_law_values) rfl
theorem f_law_changes (T : Top w K mg) : ∃ fd, FunD K "_law_changes" "_law_changes" (defArgs s_law_changes) (defBody s_law_changes) (defScope s_law_changes) [] [] (He.ga K "_law_changes") fd := T.fd 24 (d := d_law_changes) rfl
theorem f_law_variable (T : Top w K mg) : ∃ fd, FunD K "_law_variable" "_law_variable" (defArgs s_law_variable) (defBody s_law_variable) (defScope s_law_variable) [] [] (He.ga K "_law_variable") fd := T.fd 25 (d := d_law_variable) rfl
theorem f_law_plain (T : Top w K mg) : ∃ fd, FunD K "_law_plain" "_law_plain" (defArgs s_law_plain) (defBody s_law_plain) (defScope s_law_plain) [] [] (He.ga K "_law_plain") fd := T.fd 26 (d := d_law_plain) rfl
theorem f_law_body (T : Top w K mg) : ∃ fd, FunD K "_law_body" "_law_body" (defArgs s_law_body) (defBody s_law_body) (defScope s_law_body) [] [] (He.ga K "_law_body") fd := T.fd 27 (d := d_law_body) rfl
theorem f_law_size (T : Top w K mg) : ∃ fd, FunD K "_law_size" "_law_size" (defArgs s_law_size) (defBody s_law_size) (defScope s_law_size) [] [] (He.ga K "_law_size") fd := T.fd 28 (d := d_law_size) rfl
theorem f_law_prints (T : Top w K mg) : ∃ fd, FunD K "_law_prints" "_law_prints" (defArgs s_law_prints) (defBody s_law_prints) (defScope s_law_prints) [] [] (He.ga K "_law_prints") fd := T.fd 29 (d := d_law_prints) rfl
theorem f_law_short (T : Top w K mg) : ∃ fd, FunD K "_law_short" "_law_short" (defArgs s_law_short) (defBody s_law_short) (defScope s_law_short) [] [] (He.ga K "_law_short") fd := T.fd 30 (d := d_law_short) rfl
theorem f_law_case (T : Top w K mg) : ∃ fd, FunD K "_law_case" "_law_case" (defArgs s_law_case) (defBody s_law_case) (defScope s_law_case) [] [] (He.ga K "_law_case") fd := T.fd 31 (d := d_law_case) rfl
theorem f_law_lines (T : Top w K mg) : ∃ fd, FunD K "_law_lines" "_law_lines" (defArgs s_law_lines) (defBody s_law_lines) (defScope s_law_lines) [] [] (He.ga K "_law_lines") fd := T.fd 32 (d := d_law_lines) rfl
theorem f_law_number_good (T : Top w K mg) : ∃ fd, FunD K "_law_number_good" "_law_number_good" (defArgs s_law_number_good) (defBody s_law_number_good) (defScope s_law_number_good) [] [] (He.ga K "_law_number_good") fd := T.fd 33 (d := d_law_number_good) rfl
theorem f_law_word_good (T : Top w K mg) : ∃ fd, FunD K "_law_word_good" "_law_word_good" (defArgs s_law_word_good) (defBody s_law_word_good) (defScope s_law_word_good) [] [] (He.ga K "_law_word_good") fd := T.fd 34 (d := d_law_word_good) rfl
theorem f_law_kind (T : Top w K mg) : ∃ fd, FunD K "_law_kind" "_law_kind" (defArgs s_law_kind) (defBody s_law_kind) (defScope s_law_kind) [] [] (He.ga K "_law_kind") fd := T.fd 35 (d := d_law_kind) rfl
theorem f_law_wrong (T : Top w K mg) : ∃ fd, FunD K "_law_wrong" "_law_wrong" (defArgs s_law_wrong) (defBody s_law_wrong) (defScope s_law_wrong) [] [] (He.ga K "_law_wrong") fd := T.fd 36 (d := d_law_wrong) rfl
theorem f_law_spoil (T : Top w K mg) : ∃ fd, FunD K "_law_spoil" "_law_spoil" (defArgs s_law_spoil) (defBody s_law_spoil) (defScope s_law_spoil) [] [] (He.ga K "_law_spoil") fd := T.fd 37 (d := d_law_spoil) rfl
theorem f_law (T : Top w K mg) : ∃ fd, FunD K "law" "law" (defArgs s_law) (defBody s_law) (defScope s_law) [] [] (He.ga K "law") fd := T.fd 38 (d := d_law) rfl
theorem t_FORMS (T : Top w K mg) : ∃ es m, KDict K w (He.ga K "FORMS") es m := let ⟨_, _, _, c⟩ := T.h; c.t.tab 0 (t := (fun K => He.ga K "FORMS", ["read", "set", "copy", "print", "say", "wait", "if", "same", "repeat", "stop"])) rfl
theorem Top.ex (T : Top w K mg) (i : Nat) {f : PySem.W.Frag → Bool} (h : exL[i]? = some f) : f K = true := let ⟨_, _, _, c⟩ := T.h; List.all_eq_true.mp c.more f (List.mem_of_getElem? h)
theorem v_FORMS (T : Top w K mg) : He.valsB K (He.ga K "FORMS") tab_FORMS = true := T.ex 0 rfl
theorem ins_Program (T : Top w K mg) : insB K "Program" = true := T.ex 1 rfl
theorem kit_Program_Program (T : Top w K mg) : kitC K "Program" "Program" true = true := T.ex 2 rfl
theorem spc_Program_eq (T : Top w K mg) : spcB K "Program" "__eq__" = true := T.ex 3 rfl
theorem oex_BadStatement (T : Top w K mg) : oexB K (He.ga K "BadStatement") = true := T.ex 4 rfl
theorem xf_BadStatement (T : Top w K mg) : xfB K (He.ga K "BadStatement") = true := T.ex 5 rfl
theorem oex_BadText (T : Top w K mg) : oexB K (He.ga K "BadText") = true := T.ex 6 rfl
theorem xf_BadText (T : Top w K mg) : xfB K (He.ga K "BadText") = true := T.ex 7 rfl
theorem ne_Program (T : Top w K mg) : neB K "Program" = true := T.ex 8 rfl
theorem keys_FORMS (T : Top w K mg) : keysB K (He.ga K "FORMS") ["read", "set", "copy", "print", "say", "wait", "if", "same", "repeat", "stop"] = true := T.ex 9 rfl
theorem no_loop (T : Top w K mg) : He.eqO (PySem.W.nsIn K (He.ga K "FORMS") "loop") (some none) = true := T.ex 10 rfl
end
end RM

set_option Elab.async false
set_option linter.all false
set_option maxRecDepth 100000
set_option maxHeartbeats 2000000
namespace RM
open PySem PySem.Spec PyProof.Rows L2
section
variable {P : Program} {w : World} {K : PySem.W.Frag} {mg : Str → Option Value} {base : Heap}
theorem sc_is_value : FnScope ["value"] ["value"] (defScope s_is_value) := ⟨rfl, rfl, rfl, by decide +kernel, rfl, by decide +kernel, by decide +kernel⟩
def spIsValue : Sp := fun vs H Q _ => match vs with
  | [x] => ∃ n, x = .int n ∧ Q (.bl (isValue n)) H
  | _ => False
/-- data that is no number -/
def noInt : PyData → Bool
  | .int _ => false
  | .dict _ => false
  | _ => true
def spIsValueG (K : PySem.W.Frag) : Sp := fun vs H Q E => spIsValue vs H Q E ∨ match vs with
  | [x] => ∃ d, Dp K H x d ∧ noInt d = true ∧ Q (.bl false) H
  | _ => False
theorem cg_is_value (T : Top w K mg) : Cal P w K mg base CX0 1 "is_value" (spIsValueG K) := by
  refine cal_0 (f_is_value T) (g_is_value T) sc_is_value (fun _ _ _ _ _ _ us hl => match us, hl with | [_], _ => rfl) (fun vs H Q E h => match vs, h with | [_], _ => rfl | [], .inl h => h.elim | [], .inr h => h.elim | _ :: _ :: _, .inl h => h.elim | _ :: _ :: _, .inr h => h.elim) (fun cdv A outer s H vs Q E hr h => ?_)
  match vs, h with
  | [x], h =>
  refine ⟨_, (pss_one (ps_ret (pe_and (pcb (z_isinstance T) call_isi boot_isinstance (pa_cons (pv 0) (pa_cons (pty (z_int T) boot_int) pa_nil))) (pe_and (pe_not (pcb (z_isinstance T) call_isi boot_isinstance (pa_cons (pv 0) (pa_cons (pty (z_bool T) boot_bool) pa_nil)))) (pe_one (pe_chain op_le op_le (pe_un un_neg (pglI (i_GREATEST T))) (pv 0) (pglI (i_GREATEST T)))))))), ?_⟩
  rcases h with h | ⟨d, hd, hn, q⟩
  case inr =>
    cases hd with
    | int i => cases hn
    | non => exact ⟨_, rfl, _, _, _, _, false, rfl, .ty _, .base .non, kit_ty (by decide +kernel), _, rfl, iteF q⟩
    | str z => exact ⟨_, rfl, _, _, _, _, false, rfl, .ty _, .base (.str z), kit_ty (by decide +kernel), _, rfl, iteF q⟩
    | lst h1 _ => exact ⟨_, rfl, _, _, _, _, false, rfl, .ty _, tyL h1, kit_ty (by decide +kernel), _, rfl, iteF q⟩
    | tup h1 _ => exact ⟨_, rfl, _, _, _, _, false, rfl, .ty _, tyT h1, kit_ty (by decide +kernel), _, rfl, iteF q⟩
    | bl b =>
      refine ⟨_, rfl, _, _, _, _, true, rfl, .ty _, .base (.bl b), kit_ty (by decide +kernel), _, rfl, iteT ?_⟩
      exact ⟨_, rfl, _, _, _, _, true, rfl, .ty _, .base (.bl b), kit_ty (by decide +kernel), _, rfl, _, rfl, iteF q⟩
  obtain ⟨n, rfl, q⟩ := h
  refine ⟨_, rfl, _, _, _, _, true, rfl, .ty _, .base (.int _), kit_ty (by decide +kernel), _, rfl, iteT ?_⟩
  refine ⟨_, rfl, _, _, _, _, false, rfl, .ty _, .base (.int _), kit_ty (by decide +kernel), _, rfl, _, rfl, iteT ?_⟩
  refine ⟨_, rfl, _, rfl, _, _, rfl, rfl, _, rfl, ?_⟩
  unfold isValue at q
  by_cases c : -99 ≤ n
  · rw [decide_eq_true c] at q
    rw [decide_eq_true c]
    exact ⟨_, _, rfl, rfl, q⟩
  · rw [decide_eq_false c] at q
    rw [decide_eq_false c]
    exact q
theorem c_is_value (T : Top w K mg) : Cal P w K mg base CX0 1 "is_value" spIsValue := (cg_is_value T).imp fun _ _ _ _ => Or.inl
/-! ### is_word -/
def spIsWord : Sp := fun vs H Q _ => match vs with
  | [x] => ∃ z : Str, x = .str z ∧ z.length ≤ sizeLine ∧ Q (.bl (isWord z)) H
  | _ => False
theorem sc_is_word : FnScope ["value", "letter"] ["value"] (defScope s_is_word) := ⟨rfl, rfl, rfl, by decide +kernel, rfl, by decide +kernel, by decide +kernel⟩
/-- data that is no text -/
def noStr : PyData → Bool
  | .str _ => false
  | .dict _ => false
  | _ => true
def spIsWordG (K : PySem.W.Frag) : Sp := fun vs H Q E => spIsWord vs H Q E ∨ match vs with
  | [x] => ∃ d, Dp K H x d ∧ noStr d = true ∧ Q (.bl false) H
  | _ => False
theorem cg_is_word (T : Top w K mg) : Cal P w K mg base CX0 1 "is_word" (spIsWordG K) := by
  refine cal_0 (f_is_word T) (g_is_word T) sc_is_word (fun _ _ _ _ _ _ us hl => match us, hl with | [_], _ => rfl) (fun vs H Q E h => match vs, h with | [_], _ => rfl | [], .inl h => h.elim | [], .inr h => h.elim | _ :: _ :: _, .inl h => h.elim | _ :: _ :: _, .inr h => h.elim) (fun cdv A outer s H vs Q E hr h => ?_)
  match vs, h with
  | [x], h =>
  refine ⟨_, (pss_cons (ps_if (PW.pt (pw_or (pt_not (pt_val (pcb (z_isinstance T) call_isi boot_isinstance (pa_cons (pv 0) (pa_cons (pty (z_str T) boot_str) pa_nil))))) (pw_or1 (pt_not (pt_chain op_le op_le pe_int (pcb (z_len T) call_len_str boot_len (pa_cons (pv 0) pa_nil)) (pglI (i_LONGEST T)))))))
      (pss_one (ps_ret pe_bl))
      pss_nil)
    (pss_cons (ps_for PassesOwn.never rfl (pi_str (pv 0)) (pg_name (i := 1) sc_is_word.nd rfl (Or.inl rfl))
      (pss_one (ps_if (pt_cmpR op_notIn_sign (pv 1) (pglS (i_LETTERS T)) rfl)
      (pss_one (ps_ret pe_bl))
      pss_nil)))
    (pss_one (ps_ret pe_bl)))), ?_⟩
  rcases h with h | ⟨d, hd, hn, q⟩
  case inr =>
    cases hd with
    | str z => cases hn
    | non => exact ⟨_, rfl, _, _, _, _, false, rfl, .ty _, .base .non, kit_ty (by decide +kernel), _, rfl, iteT q⟩
    | int z => exact ⟨_, rfl, _, _, _, _, false, rfl, .ty _, .base (.int z), kit_ty (by decide +kernel), _, rfl, iteT q⟩
    | bl z => exact ⟨_, rfl, _, _, _, _, false, rfl, .ty _, .base (.bl z), kit_ty (by decide +kernel), _, rfl, iteT q⟩
    | lst h1 _ => exact ⟨_, rfl, _, _, _, _, false, rfl, .ty _, tyL h1, kit_ty (by decide +kernel), _, rfl, iteT q⟩
    | tup h1 _ => exact ⟨_, rfl, _, _, _, _, false, rfl, .ty _, tyT h1, kit_ty (by decide +kernel), _, rfl, iteT q⟩
  obtain ⟨z, rfl, hz, q⟩ := h
  refine ⟨_, rfl, _, _, _, _, true, rfl, .ty _, .base (.str _), kit_ty (by decide +kernel), _, rfl, ?_⟩
  refine iteF ?_
  refine ⟨_, rfl, _, rfl, hz, _, _, rfl, rfl, _, rfl, ?_⟩
  have no : ∀ b : Bool, isWord z = b → Q (.bl b) H := fun b e => by rw [← e]; exact q
  by_cases c1 : 1 ≤ (z.length : Int)
  case neg =>
    rw [decide_eq_false c1]
    exact iteF ⟨_, rfl, iteT (no false (by unfold isWord; rw [decide_eq_false (by omega)]; rfl))⟩
  rw [decide_eq_true c1]
  refine iteT ?_
  refine ⟨_, _, rfl, rfl, _, rfl, ?_⟩
  by_cases c2 : (z.length : Int) ≤ 6
  case neg =>
    rw [decide_eq_false c2]
    exact iteT (no false (by unfold isWord; rw [decide_eq_false (by omega : ¬ z.length ≤ 6), Bool.and_false]; rfl))
  rw [decide_eq_true c2]
  refine iteF ?_
  have e0 : isWord z = z.cps.toList.all isLet := by
    unfold isWord
    rw [decide_eq_true (by omega), decide_eq_true (by omega)]
    rfl
  refine ⟨_, rfl, _, rfl, for_it walk_str (fun i σ H' => H' = H ∧ (∃ v, σ = [some (.str z), v]) ∧ (z.cps.toList.take i).all isLet = true) ⟨rfl, ⟨_, rfl⟩, rfl⟩ (fun _ _ _ _ _ => trivial) ?_ ?_⟩
  · rintro i x σ H1 H2 hi ⟨rfl, ⟨v, rfl⟩, ha⟩ ⟨rfl, c, hc, rfl⟩
    refine ⟨_, rfl, c, _, rfl, rfl, _, rfl, ?_⟩
    have hc' : z.cps.toList[i]? = some c := by simpa using hc
    by_cases m : c ∈ ("abcdefghijklmnopqrstuvwxyz" : Str).cps.toList
    · rw [decide_eq_true m]
      refine iteF ⟨rfl, ⟨_, rfl⟩, ?_⟩
      rw [List.take_add_one, hc', List.all_append, ha]
      show ([c].all isLet) = true
      simp only [List.all_cons, List.all_nil, Bool.and_true]
      exact decide_eq_true m
    · rw [decide_eq_false m]
      refine iteT (no false (e0.trans ?_))
      rw [List.all_eq_false]
      exact ⟨c, List.mem_of_getElem? hc', by unfold isLet; rw [decide_eq_false m]; exact Bool.false_ne_true⟩
  · rintro σ H1 ⟨rfl, ⟨v, rfl⟩, ha⟩
    refine no true (e0.trans ?_)
    rw [← ha, List.take_of_length_le (by simp)]
theorem c_is_word (T : Top w K mg) : Cal P w K mg base CX0 1 "is_word" spIsWord := (cg_is_word T).imp fun _ _ _ _ => Or.inl
end
end RM

set_option Elab.async false
set_option linter.all false
set_option maxRecDepth 100000
set_option maxHeartbeats 2000000
namespace RM
open PySem PySem.Spec PyProof.Rows L2
section
variable {P : Program} {w : World} {K : PySem.W.Frag} {mg : Str → Option Value} {base : Heap}
/-! ### is_item -/
inductive ItemOk (K : PySem.W.Frag) (H : Hp) : V → Nat → Prop where
  | k {z : Str} (h : isWord z = true) : ItemOk K H (.str z) 107
  | v {n : Int} (h : isValue n = true) : ItemOk K H (.int n) 118
  | t {n : Int} (h0 : 0 ≤ n) (h3 : n ≤ 3) : ItemOk K H (.int n) 116
  | b {a : Addr} {xs : List V} (h : SqL K H a xs ∨ SqT K H a xs) : ItemOk K H (.ref a) 98
def spIsItem (K : PySem.W.Frag) : Sp := fun vs H Q _ => match vs with
  | [x, f] => ∃ c, f = .str ⟨#[c]⟩ ∧ ItemOk K H x c ∧ ∀ H', Same H H' → Q (.bl true) H'
  | _ => False
theorem sc_is_item : FnScope ["value", "form"] ["value", "form"] (defScope s_is_item) := ⟨rfl, rfl, rfl, by decide +kernel, rfl, by decide +kernel, by decide +kernel⟩
theorem c_is_item (T : Top w K mg) : Cal P w K mg base CX0 2 "is_item" (spIsItem K) := by
  refine cal_0 (f_is_item T) (g_is_item T) sc_is_item (fun _ _ _ _ _ _ us hl => match us, hl with | [_, _], _ => rfl) (fun vs H Q E h => match vs, h with | [_, _], _ => rfl) (fun cdv A outer s H vs Q E hr h => ?_)
  match vs, h with
  | [x, f], h =>
  obtain ⟨c, rfl, ok, q⟩ := h
  refine ⟨_, (pss_cons (ps_if (pt_cmpR op_eq (pv 1) pe_str (nomark _))
      (pss_one (ps_ret (pc (c_is_word T) hr (pa_cons (pv 0) pa_nil))))
      pss_nil)
    (pss_cons (ps_if (pt_cmpR op_eq (pv 1) pe_str (nomark _))
      (pss_one (ps_ret (pc (c_is_value T) hr (pa_cons (pv 0) pa_nil))))
      pss_nil)
    (pss_cons (ps_if (pt_cmpR op_eq (pv 1) pe_str (nomark _))
      (pss_one (ps_ret (pe_and (pc (c_is_value T) hr (pa_cons (pv 0) pa_nil)) (pe_one (pe_chain op_le op_le pe_int (pv 0) pe_int)))))
      pss_nil)
    (pss_one (ps_ret (pcb (z_isinstance T) call_isiT boot_isinstance (pa_cons (pv 0) (pa_cons (pe_tup (pa_cons (pty (z_list T) boot_list) (pa_cons (pty (z_tuple T) boot_tuple) pa_nil))) pa_nil)))))))), ?_⟩
  have q0 := q H (Same.refl H)
  cases ok with
  | k hz =>
    refine ⟨_, rfl, rfl, _, rfl, ifT (by decide +kernel) ?_⟩
    exact ⟨_, rfl, _, rfl, word_size hz, by rw [hz]; exact q0⟩
  | v hv =>
    refine ⟨_, rfl, rfl, _, rfl, ifF (by decide +kernel) ?_⟩
    refine ⟨_, rfl, rfl, _, rfl, ifT (by decide +kernel) ?_⟩
    exact ⟨_, rfl, _, rfl, by rw [hv]; exact q0⟩
  | @t n h0 h3 =>
    refine ⟨_, rfl, rfl, _, rfl, ifF (by decide +kernel) ?_⟩
    refine ⟨_, rfl, rfl, _, rfl, ifF (by decide +kernel) ?_⟩
    refine ⟨_, rfl, rfl, _, rfl, ifT (by decide +kernel) ?_⟩
    have hv : isValue n = true := isValue_rep (by rw [decide_eq_true h0, decide_eq_true h3]; rfl)
    refine ⟨_, rfl, _, rfl, _, rfl, ifT hv ?_⟩
    refine ⟨_, rfl, _, _, rfl, rfl, _, rfl, ifT (decide_eq_true h0) ⟨_, _, rfl, rfl, ?_⟩⟩
    exact qT (decide_eq_true h3) q0
  | b ha =>
    refine ⟨_, rfl, rfl, _, rfl, ifF (by decide +kernel) ?_⟩
    refine ⟨_, rfl, rfl, _, rfl, ifF (by decide +kernel) ?_⟩
    refine ⟨_, rfl, rfl, _, rfl, ifF (by decide +kernel) ?_⟩
    refine ⟨_, rfl, (by show 2 ≤ sizeLine; decide), fun p hp => ?_⟩
    have s1 : Same H (upd H p (.tup [.ty "list", .ty "tuple"])) := smNew1 hp _
    rcases ha with ha | ha
    · exact ⟨_, p, _, _, [.type "list", .type "tuple"], true, rfl, upd_same, .cons (.ty _) (.cons (.ty _) .nil), tyL (s1.seq ha), kitAny_cons (b := true) (kit_ty (by decide +kernel)) (fun z => by cases z) (fun _ => rfl), q _ s1⟩
    · exact ⟨_, p, _, _, [.type "list", .type "tuple"], true, rfl, upd_same, .cons (.ty _) (.cons (.ty _) .nil), tyT (smT s1 ha), kitAny_cons (b := false) (kit_ty (by decide +kernel)) (fun _ => kitAny_cons (b := true) (kit_ty (by decide +kernel)) (fun z => by cases z) (fun _ => rfl)) (fun z => by cases z), q _ s1⟩
/-! ### the table of forms -/
theorem forms (T : Top w K mg) (s : Stm) : ∃ es m, KDict K w (He.ga K "FORMS") es m ∧ ∃ u, PySem.W.nsIn K (He.ga K "FORMS") s.word = some (some u) ∧ RelV (.str s.form) u := by
  obtain ⟨es, m, D⟩ := t_FORMS T
  refine ⟨es, m, D, ?_⟩
  have h := v_FORMS T
  cases s <;> first
    | exact He.valsB_ok h (q := ("read", .str "kk")) (by simp [tab_FORMS])
    | exact He.valsB_ok h (q := ("set", .str "kv")) (by simp [tab_FORMS])
    | exact He.valsB_ok h (q := ("copy", .str "kk")) (by simp [tab_FORMS])
    | exact He.valsB_ok h (q := ("print", .str "k")) (by simp [tab_FORMS])
    | exact He.valsB_ok h (q := ("say", .str "v")) (by simp [tab_FORMS])
    | exact He.valsB_ok h (q := ("wait", .str "")) (by simp [tab_FORMS])
    | exact He.valsB_ok h (q := ("if", .str "kvbb")) (by simp [tab_FORMS])
    | exact He.valsB_ok h (q := ("same", .str "kkbb")) (by simp [tab_FORMS])
    | exact He.valsB_ok h (q := ("repeat", .str "tb")) (by simp [tab_FORMS])
    | exact He.valsB_ok h (q := ("stop", .str "")) (by simp [tab_FORMS])
theorem kd_form (T : Top w K mg) (s : Stm) : KDct K w (He.ga K "FORMS") s.word (.str s.form) := by
  obtain ⟨es, m, D, u, h, r⟩ := forms T s
  exact ⟨es, m, u, D.1, D.2, h, r⟩
/-! ### a statement as a tuple -/
/-- x stands for a statement: its word, its items -/
def ShapeS (K : PySem.W.Frag) (H : Hp) (x : V) (s : Stm) (fl : Bool) : Prop :=
  ∃ a xs, x = .ref a ∧ SqT K H a (.str s.word :: xs) ∧ DpAll K H xs (s.flats ++ s.bodies.map fun b => seqD fl (encB fl b))
theorem shape_of {H : Hp} {x : V} {s : Stm} {fl : Bool} (h : Dp K H x (encS fl s)) : ShapeS K H x s fl := by
  rw [encS_eq] at h
  obtain ⟨a, xs, rfl, hq, hd⟩ := Dp.tup_inv h
  obtain ⟨v, r, rfl, h1, h2⟩ := DpAll.cons_inv hd
  rw [Dp.str_inv h1] at hq
  exact ⟨a, r, rfl, hq, h2⟩
theorem form_len (s : Stm) : s.form.cps.size = s.flats.length + s.bodies.length := by
  cases s <;> (simp only [Stm.form, Stm.flats, Stm.bodies, List.length_cons, List.length_nil]; decide +kernel)
theorem word_sz (s : Stm) : s.word.length ≤ sizeLine ∧ s.form.length ≤ sizeLine := by
  have h : s.word.length ≤ 1000 ∧ s.form.length ≤ 1000 := by cases s <;> (simp only [Stm.form, Stm.word]; decide +kernel)
  exact ⟨Nat.le_of_lt (small1000 h.1), Nat.le_of_lt (small1000 h.2)⟩
theorem form_five (s : Stm) : s.form.cps.size ≤ 4 := by cases s <;> (simp only [Stm.form]; decide +kernel)
theorem ShapeS.items {H : Hp} {xs : List V} {s : Stm} {fl : Bool} (h : DpAll K H xs (s.flats ++ s.bodies.map fun b => seqD fl (encB fl b))) : xs.length = s.form.cps.size := by
  rw [form_len, DpAll.len h, List.length_append, List.length_map]
/-- each item is what its sign says -/
theorem item_ok {H : Hp} {xs : List V} {s : Stm} {fl : Bool} (hw : wl s = true) (h : DpAll K H xs (s.flats ++ s.bodies.map fun b => seqD fl (encB fl b))) {i c : Nat} {x : V} (hx : xs[i]? = some x) (hc : s.form.cps[i]? = some c) : ItemOk K H x c := by
  obtain ⟨d, hd, dp⟩ := DpAll.getV h hx
  have seqOk : ∀ {ds : List PyData}, Dp K H x (seqD fl ds) → ItemOk K H x 98 := fun {ds} q => by
    obtain ⟨a, ys, rfl, hs, _⟩ := seqD_inv q
    exact .b hs
  cases s with
  | read v k =>
    simp only [wl, Bool.and_eq_true] at hw
    match i, hd, hc with
    | 0, hd, hc => cases hd; cases hc; rw [Dp.str_inv dp]; exact .k hw.1
    | 1, hd, hc => cases hd; cases hc; rw [Dp.str_inv dp]; exact .k hw.2
    | n + 2, hd, hc => simp [Stm.flats, Stm.bodies] at hd
  | set v n =>
    simp only [wl, Bool.and_eq_true] at hw
    match i, hd, hc with
    | 0, hd, hc => cases hd; cases hc; rw [Dp.str_inv dp]; exact .k hw.1
    | 1, hd, hc => cases hd; cases hc; rw [Dp.int_inv dp]; exact .v hw.2
    | n + 2, hd, hc => simp [Stm.flats, Stm.bodies] at hd
  | copy v u =>
    simp only [wl, Bool.and_eq_true] at hw
    match i, hd, hc with
    | 0, hd, hc => cases hd; cases hc; rw [Dp.str_inv dp]; exact .k hw.1
    | 1, hd, hc => cases hd; cases hc; rw [Dp.str_inv dp]; exact .k hw.2
    | n + 2, hd, hc => simp [Stm.flats, Stm.bodies] at hd
  | print v =>
    match i, hd, hc with
    | 0, hd, hc => cases hd; cases hc; rw [Dp.str_inv dp]; exact .k hw
    | n + 1, hd, hc => simp [Stm.flats, Stm.bodies] at hd
  | say n =>
    match i, hd, hc with
    | 0, hd, hc => cases hd; cases hc; rw [Dp.int_inv dp]; exact .v hw
    | n + 1, hd, hc => simp [Stm.flats, Stm.bodies] at hd
  | wait => simp [Stm.flats, Stm.bodies] at hd
  | stop => simp [Stm.flats, Stm.bodies] at hd
  | ite v n a b =>
    simp only [wl, Bool.and_eq_true] at hw
    match i, hd, hc with
    | 0, hd, hc => cases hd; cases hc; rw [Dp.str_inv dp]; exact .k hw.1
    | 1, hd, hc => cases hd; cases hc; rw [Dp.int_inv dp]; exact .v hw.2
    | 2, hd, hc => cases hc; exact seqOk (ds := encB fl a) (by cases hd; exact dp)
    | 3, hd, hc => cases hc; exact seqOk (ds := encB fl b) (by cases hd; exact dp)
    | n + 4, hd, hc => simp [Stm.flats, Stm.bodies] at hd
  | same v u a b =>
    simp only [wl, Bool.and_eq_true] at hw
    match i, hd, hc with
    | 0, hd, hc => cases hd; cases hc; rw [Dp.str_inv dp]; exact .k hw.1
    | 1, hd, hc => cases hd; cases hc; rw [Dp.str_inv dp]; exact .k hw.2
    | 2, hd, hc => cases hc; exact seqOk (ds := encB fl a) (by cases hd; exact dp)
    | 3, hd, hc => cases hc; exact seqOk (ds := encB fl b) (by cases hd; exact dp)
    | n + 4, hd, hc => simp [Stm.flats, Stm.bodies] at hd
  | rep n a =>
    simp only [wl, Bool.and_eq_true] at hw
    match i, hd, hc with
    | 0, hd, hc => cases hd; cases hc; rw [Dp.int_inv dp]; exact .t (of_decide_eq_true hw.1) (of_decide_eq_true hw.2)
    | 1, hd, hc => cases hc; exact seqOk (ds := encB fl a) (by cases hd; exact dp)
    | n + 2, hd, hc => simp [Stm.flats, Stm.bodies] at hd
/-! ### is_statement -/
def spIsStm (K : PySem.W.Frag) : Sp := fun vs H Q _ => match vs with
  | [x] => ∃ (fl : Bool) (s : Stm), Dp K H x (encS fl s) ∧ wl s = true ∧ ∀ H', Same H H' → Q (.bl true) H'
  | _ => False
theorem sc_is_statement : FnScope ["value", "form", "item", "sign"] ["value"] (defScope s_is_statement) := ⟨rfl, rfl, rfl, by decide +kernel, rfl, by decide +kernel, by decide +kernel⟩
theorem c_is_statement (T : Top w K mg) : Cal P w K mg base CX0 3 "is_statement" (spIsStm K) := by
  refine cal_0 (f_is_statement T) (g_is_statement T) sc_is_statement (fun _ _ _ _ _ _ us hl => match us, hl with | [_], _ => rfl) (fun vs H Q E h => match vs, h with | [_], _ => rfl) (fun cdv A outer s H vs Q E hr h => ?_)
  match vs, h with
  | [x], h =>
  obtain ⟨fl, s, hd, hw, q⟩ := h
  obtain ⟨es, m, D, u, hu, ru⟩ := forms T s
  obtain ⟨a, xs, rfl, ha, hx⟩ := shape_of hd
  refine ⟨_, (pss_cons (ps_if (PW.pt (pw_or (pt_not (pt_val (pcb (z_isinstance T) call_isi boot_isinstance (pa_cons (pv 0) (pa_cons (pty (z_tuple T) boot_tuple) pa_nil))))) (pw_or (pt_not (pt_truth (pv 0) (by intro _; rfl))) (pw_or (pt_not (pt_val (pcb (z_isinstance T) call_isi boot_isinstance (pa_cons (pe_ix ix_tup (pv 0) pe_int (fun _ _ => rfl)) (pa_cons (pty (z_str T) boot_str) pa_nil))))) (pw_or1 (pt_cmpR (op_notIn_kd D) (pe_ix ix_tup (pv 0) pe_int (fun _ _ => rfl)) (pglR (g_FORMS T)) rfl))))))
      (pss_one (ps_ret pe_bl))
      pss_nil)
    (pss_cons (ps_set (i := 1) sc_is_statement.nd rfl (Or.inl rfl) (pe_ix ix_kdict (pglR (g_FORMS T)) (pe_ix ix_tup (pv 0) pe_int (fun _ _ => rfl)) (fun _ _ => rfl)))
    (pss_cons (ps_if (pt_cmpR op_ne (pcb (z_len T) call_len_seq boot_len (pa_cons (pv 0) pa_nil)) (pe_op op_add (pcb (z_len T) call_len_str boot_len (pa_cons (pv 1) pa_nil)) pe_int) (nomark _))
      (pss_one (ps_ret pe_bl))
      pss_nil)
    (pss_one (ps_ret (pcb (z_all T) (cr_all rfl) boot_all (pa_cons (pe_lc (own := [("item", 2), ("sign", 3)]) rfl sc_is_statement.nd (pi_zipTS (by rfl) (z_zip T) (pa_cons (pe_slice sl_tup (pv 0) (po_some pe_int) po_none) (pa_cons (pv 1) pa_nil))) (blkOk_by (own := [("item", 2), ("sign", 3)]) (N := ["value", "form", "item", "sign"]) (sc := defScope s_is_statement) (by decide +kernel)) (fun _ _ _ _ _ => (pg_tup' (n := 2) (K := K) rfl rfl (pgs_cons (pg_name (i := 2) sc_is_statement.nd rfl (Or.inl rfl) (Or.inr rfl)) (pgs_cons (pg_name (i := 3) sc_is_statement.nd rfl (Or.inl rfl) (Or.inr rfl)) pgs_nil)) rfl rfl)) (fun _ _ _ _ _ => pts_nil) (fun _ _ _ _ _ => (pc (c_is_item T) hr (pa_cons (pv 2) (pa_cons (pv 3) pa_nil))))) pa_nil))))))), ?_⟩
  refine ⟨_, rfl, _, _, _, _, true, rfl, .ty _, tyT ha, kit_ty (by decide +kernel), _, rfl, iteF ?_⟩
  refine ⟨_, rfl, true, Or.inr (Or.inl ⟨_, ha, rfl⟩), iteF ?_⟩
  refine ⟨_, rfl, _, _, _, _, rfl, rfl, ha, at0, ?_⟩
  refine ⟨_, _, _, _, true, rfl, .ty _, .base (.str _), kit_ty (by decide +kernel), _, rfl, iteF ?_⟩
  refine ⟨_, rfl, _, _, _, _, rfl, rfl, ha, at0, _, _, rfl, rfl, hu, _, rfl, iteF ?_⟩
  refine ⟨_, rfl, _, _, _, _, rfl, rfl, ha, at0, _, _, _, rfl, rfl, ⟨es, m, u, D.1, D.2, hu, ru⟩, ?_⟩
  have hl : xs.length = s.form.cps.size := ShapeS.items hx
  refine ⟨_, rfl, _, _, rfl, .inr ha, _, rfl, _, rfl, (word_sz s).2, _, _, rfl, rfl, rfl, _, rfl, ifF ?_ ?_⟩
  · rw [Bool.not_eq_false', decide_eq_true_eq]
    show V.int (((V.str s.word :: xs).length : Nat) : Int) = V.int ((s.form.length : Int) + 1)
    rw [List.length_cons, hl]
    rfl
  -- all([is_item(item, sign) for item, sign in zip(value[1:], form)])
  refine ⟨_, rfl, _, rfl, _, _, rfl, ha, cut_not, fun p hp => ?_⟩
  rw [cut_tail]
  have s1 : Same H (upd H p (.tup xs)) := smNew1 hp _
  refine ⟨_, rfl, _, xs, _, rfl, SqT.of upd_same, fun D nD => ?_⟩
  have i4 := form_five s
  refine lc_opt (walk_zipTS hl) (fun (_ : Unit) y _ => y = .bl true) (fun _ => some ()) nD (small1000 (by omega)) (fun H' e => smT e (SqT.of upd_same)) (fun _ _ _ _ h _ => h) (fun _ _ _ _ _ h _ => h) ?_ ?_
  · rintro i x H1 H2 N hi e ⟨t, y, z, rfl, ht, rfl, hy, hz⟩ hk _
    obtain ⟨c, hc, rfl⟩ := Option.map_eq_some_iff.mp hz
    refine ⟨t, _, rfl, SqT.of upd_same, rfl, _, _, rfl, _, _, rfl, rfl, rfl, ?_⟩
    refine yesI ?_
    have sx : Same H (upd H1 t (.tup [y, .str ⟨#[c]⟩])) := smNew (fun b o q => e b o (s1 b o q)) ht _
    refine ⟨_, rfl, _, rfl, c, rfl, item_ok hw (DpAll.keep sx hx) hy hc, fun H3 s3 => ?_⟩
    exact hk _ _ () rfl (fun b o q => s3 b o (smNew1 ht _ b o q)) rfl
  · intro H' ys e hD hp'
    rw [paired_const hp', range_some, List.length_map, List.length_range, rep_bl] at hD
    exact ⟨_, _, rfl, SqL.of hD, qT (all_rep _) (q _ fun b o z => e _ _ (s1 b o z))⟩
end
end RM

set_option Elab.async false
set_option linter.all false
set_option maxRecDepth 100000
set_option maxHeartbeats 2000000
set_option pp.maxSteps 400
set_option pp.deepTerms false
namespace RM
open PySem PySem.Spec PyProof.Rows L2
section
variable {P : Program} {w : World} {K : PySem.W.Frag} {mg : Str → Option Value} {base : Heap}
/-! ### body_lines -/
def spLines (K : PySem.W.Frag) (n : Nat) : Sp := fun vs H Q _ => match vs with
  | [b, i] => ∃ (fl : Bool) (l : List Stm) (ind : Nat), Dp K H b (seqD fl (encB fl l)) ∧ i = .int ind ∧ wB l = true ∧ dB l ≤ n ∧ cB l ≤ 100 ∧ ind + 2 * n ≤ 100 ∧
      ∀ p H', Same H H' → H p = none → H' p = some (.lst ((lnB ind l).map V.str)) → Q (.ref p) H'
  | _ => False
theorem sc_body_lines : FnScope ["body", "indent", "lines", "one", "form", "words", "inner", "item"] ["body", "indent"] (defScope s_body_lines) := ⟨rfl, rfl, rfl, by decide +kernel, rfl, by decide +kernel, by decide +kernel⟩
theorem ok_body_lines (T : Top w K mg) {n : Nat} (ih : Cal P w K mg base CX0 (n + 1) "body_lines" (spLines K n)) : Cal P w K mg base CX0 (n + 2) "body_lines" (spLines K (n + 1)) := by
  refine cal_0 (f_body_lines T) (g_body_lines T) sc_body_lines (fun _ _ _ _ _ _ us hl => match us, hl with | [_, _], _ => rfl) (fun vs H Q E h => match vs, h with | [_, _], _ => rfl) (fun cdv A outer s H vs Q E hr h => ?_)
  match vs, h with
  | [b, i], h =>
  obtain ⟨fl, l, ind, hb, rfl, hw, hn, hc, hi, q⟩ := h
  obtain ⟨a, xs, rfl, ha, hx⟩ := seqD_inv hb
  have lx : xs.length = l.length := by rw [DpAll.len hx, encB_map, List.length_map]
  refine ⟨_, (pss_cons (ps_set (i := 2) sc_body_lines.nd rfl (Or.inl rfl) (pe_lst pa_nil))
    (pss_cons (ps_for PassesOwn.never rfl (pi_seqA (pv 0)) (pg_name (i := 3) sc_body_lines.nd rfl (Or.inl rfl))
      (pss_cons (ps_set (i := 4) sc_body_lines.nd rfl (Or.inl rfl) (pe_repl (pek_ix ix_kdict (pglR (g_FORMS T)) (pek_ix ix_tup (pv 3) pek_int (fun _ _ => rfl)) (fun _ _ => rfl))))
    (pss_cons (ps_set (i := 5) sc_body_lines.nd rfl (Or.inl rfl) (pe_op op_cat (pe_lst (pa_cons (pe_ix ix_tup (pv 3) pe_int (fun _ _ => rfl)) pa_nil)) (pe_lc (own := [("item", 7)]) rfl sc_body_lines.nd (pi_seqA (pe_slice sl_tup (pv 3) (po_some pe_int) (po_some (pe_op op_add (pcb (z_len T) call_len_str boot_len (pa_cons (pv 4) pa_nil)) pe_int)))) (blkOk_by (own := [("item", 7)]) (N := ["body", "indent", "lines", "one", "form", "words", "inner", "item"]) (sc := defScope s_body_lines) (by decide +kernel)) (fun _ _ _ _ _ => (pg_name (i := 7) sc_body_lines.nd rfl (Or.inl rfl) (Or.inr rfl))) (fun _ _ _ _ _ => pts_nil) (fun _ _ _ _ _ => (pct (z_str T) cr_str boot_str (pa_cons (pv 7) pa_nil))))))
    (pss_cons (ps_expr (pe_bm PySem.F.plainAttrs_list PySem.F.slot_list_append PySem.F.type_list_append mt_append (pv 2) (pa_cons (pe_op op_add_str (pe_op op_spc pe_str (pv 1)) (pe_join pe_str (pv 5))) pa_nil)))
    (pss_cons (ps_set (i := 6) sc_body_lines.nd rfl (Or.inl rfl) (pe_slice sl_tup (pv 3) (po_some (pe_op op_add (pcb (z_len T) call_len_str boot_len (pa_cons (pv 4) pa_nil)) pe_int)) po_none))
    (pss_cons (ps_if (pt_truth (pv 6) (by intro _; rfl))
      (pss_one (ps_set (i := 2) sc_body_lines.nd rfl (Or.inl rfl) (pe_op op_cat (pv 2) (pc ih hr (pa_cons (pe_ix ix_tup (pv 6) pe_int (fun _ _ => rfl)) (pa_cons (pe_op op_add (pv 1) pe_int) pa_nil))))))
      pss_nil)
    (pss_one (ps_if (pt_cmpR op_gt (pcb (z_len T) call_len_seq boot_len (pa_cons (pv 6) pa_nil)) pe_int (nomark _))
      (pss_cons (ps_expr (pe_bm PySem.F.plainAttrs_list PySem.F.slot_list_append PySem.F.type_list_append mt_append (pv 2) (pa_cons (pe_op op_add_str (pe_op op_spc pe_str (pv 1)) pe_str) pa_nil)))
    (pss_one (ps_set (i := 2) sc_body_lines.nd rfl (Or.inl rfl) (pe_op op_cat (pv 2) (pc ih hr (pa_cons (pe_ix ix_tup (pv 6) pe_int (fun _ _ => rfl)) (pa_cons (pe_op op_add (pv 1) pe_int) pa_nil)))))))
      pss_nil))))))))
    (pss_one (ps_ret (pv 2))))), ?_⟩
  refine ⟨(by show 0 ≤ sizeLine; decide), fun fd nfd => ?_⟩
  have s0 := smNew1 nfd (.lst [])
  refine ⟨_, rfl, ?_⟩
  refine seqA_of ha s0 fun J wk => ?_
  refine for_it wk (fun i σ H' => Same H H' ∧ ∃ f, H f = none ∧ H' f = some (.lst ((lnB ind (l.take i)).map V.str)) ∧ ∃ v3 v4 v5 v6 v7, σ = [some (.ref a), some (.int ind), some (.ref f), v3, v4, v5, v6, v7])
    ⟨s0, fd, nfd, upd_same, _, _, _, _, _, rfl⟩ (fun i σ H' _ h => h.1) ?_ ?_
  · rintro i x σ H1 H2 hi' ⟨s1, f, nf, hf, v3, v4, v5, v6, v7, rfl⟩ ⟨rfl, hx1⟩
    obtain ⟨d, hd1, hd2⟩ := DpAll.getV hx hx1
    obtain ⟨st, hst, rfl⟩ := encB_get hd1
    have hm : st ∈ l := List.mem_of_getElem? hst
    have hwl := wl_of (wB_all hw st hm)
    obtain ⟨sa, sxs, rfl, hsa, hsx⟩ := shape_of hd2
    obtain ⟨us, ws, rfl, hus, hbs⟩ := DpAll.app_inv hsx
    have lus : us.length = st.flats.length := DpAll.len hus
    have hsa1 := smT s1 hsa
    have fl2 := flats_len st
    -- form
    refine ⟨_, rfl, _, _, _, _, rfl, rfl, hsa1, at0, _, _, _, rfl, rfl, kd_form T st, ?_⟩
    refine ⟨_, rfl, form_small st, ?_⟩
    -- words
    refine ⟨_, rfl, _, _, _, _, rfl, rfl, hsa1, at0, (by show 1 ≤ sizeLine; decide), fun p1 np1 => ?_⟩
    have t1 := smNew1 np1 (.lst [.str st.word])
    have hsz : (fform st).length ≤ sizeLine := Nat.le_of_lt (small1000 (by rw [fform_len]; omega))
    refine ⟨_, rfl, _, rfl, _, rfl, _, rfl, hsz, _, _, rfl, rfl, _, rfl, _, _, rfl, smT t1 hsa1, not_all (k := 0), fun p2 np2 => ?_⟩
    rw [show Txt.replace st.form "b" "" = fform st from rfl, cut_mid (by rw [fform_len, lus])]
    have t2 := smNew t1 np2 (.tup us)
    refine seqA_of (.inr (SqT.of upd_same)) (Same.refl _) fun J2 wk2 => ?_
    intro D nD
    refine lc_opt wk2 (fun (z : Str) y _ => y = .str z) (fun i => (st.flats[i]?).map tokD) nD (small1000 (by omega)) (fun H' e => e) (fun _ _ _ _ h _ => h) (fun _ _ _ _ _ h _ => h) ?_ ?_
    · rintro j y H3 H4 N hj e ⟨rfl, hy⟩ hk _
      obtain ⟨d, hd3, hd4⟩ := DpAll.getV hus hy
      refine ⟨rfl, yesI ⟨_, rfl, ?_⟩⟩
      rcases flat_ok hwl (List.mem_of_getElem? hd3) with ⟨z, rfl, hz⟩ | ⟨m, rfl, hm2⟩
      · obtain rfl := Dp.str_inv hd4
        exact .inl ⟨z, rfl, hk _ _ z (by rw [hd3]; rfl) (Same.refl _) rfl⟩
      · obtain rfl := Dp.int_inv hd4
        exact .inr ⟨m, rfl, log_small hm2, hk _ _ (numT m) (by rw [hd3]; rfl) (Same.refl _) rfl⟩
    intro H3 ys e hD hp'
    rw [lus, map_at] at hp'
    have hys : ys = (st.flats.map tokD).map V.str := paired_eq hp'
    have t3 : Same H2 H3 := t2.trans e
    have hp1 : H3 p1 = some (.lst [.str st.word]) := e _ _ (smNew1 np2 _ _ _ upd_same)
    have hy : [V.str st.word] ++ ys = st.toks.map V.str := by rw [hys]; rfl
    have ly : ys.length ≤ 2 := by rw [hys, List.length_map, List.length_map]; omega
    refine ⟨p1, D, _, _, rfl, rfl, hp1, hD, Nat.le_of_lt (small1000 (by show 1 + ys.length ≤ 1000; omega)), fun p3 np3 => ?_⟩
    rw [hy]
    have t4 := smNew t3 np3 (.lst (st.toks.map V.str))
    -- lines.append
    have hf4 := t4 _ _ hf
    have hf4' := t3 _ _ hf
    have ts := toks_sum hwl
    have tl3 := toks_len st
    refine ⟨_, rfl, .inl ⟨rfl, _, SqL.of hf4⟩, ?_⟩
    refine ⟨_, rfl, ind, rfl, rfl, by omega, ?_⟩
    refine ⟨⟨_, rfl⟩, _, rfl, _, _, _, rfl, rfl, .inl (SqL.of upd_same), (by rw [blank_one]; omega), ?_⟩
    have ll := line_len (i := ind) hwl
    refine ⟨_, _, rfl, rfl, ?_, ?_⟩
    · rw [← Str.length_append]
      exact Nat.le_of_lt (small1000 (by show (line ind st.toks).length ≤ 1000; omega))
    have lc := lnB_cnt ind l
    have lt : (lnB ind (l.take i)).length ≤ (lnB ind l).length := by
      rw [← List.take_append_drop i l, lnB_app, List.length_append]
      simp only [List.take_append_drop]
      omega
    refine ⟨f, _, _, rfl, rfl, hf4, small1000 (by rw [List.length_map]; omega), ?_⟩
    -- inner
    have np3' : H2 p3 = none := sm_none t3 np3
    have fne : f ≠ p3 := ne_of_none hf4' np3
    have k5 : Same H (upd (upd H3 p3 (.lst (st.toks.map V.str))) f (.lst ((lnB ind (l.take i)).map V.str ++ [.str (spc ind ++ Txt.join " " st.toks)]))) := smOut (s1.trans t4) nf _
    refine ⟨_, rfl, _, rfl, _, rfl, hsz, _, _, rfl, rfl, _, rfl, _, _, rfl, smT k5 hsa, not_all, fun p4 np4 => ?_⟩
    rw [cut_end (k := (fform st).length) (by rw [fform_len, lus])]
    generalize hH5 : upd (upd H3 p3 (.lst (st.toks.map V.str))) f (.lst ((lnB ind (l.take i)).map V.str ++ [.str (spc ind ++ Txt.join " " st.toks)])) = H5 at k5 np4 ⊢
    have hf5 : H5 f = some (.lst ((lnB ind (l.take i) ++ [line ind st.toks]).map V.str)) := by rw [← hH5, upd_same, List.map_append]; rfl
    have k6 := smNew k5 np4 (.tup ws)
    have hf6 := smNew1 np4 (.tup ws) _ _ hf5
    have hin : SqT K (upd H5 p4 (.tup ws)) p4 ws := SqT.of upd_same
    generalize upd H5 p4 (.tup ws) = H6 at k6 hf6 hin ⊢
    have cm := cB_mem hm
    have dm := dB_mem hm
    refine ⟨_, rfl, !ws.isEmpty, .inr (.inl ⟨_, hin, rfl⟩), ?_⟩
    rcases bodies_cases st with hb0 | ⟨b1, hb1⟩ | ⟨b1, b2, hb2⟩
    · rw [hb0] at hbs
      obtain rfl := DpAll.nil_inv hbs
      refine ifF rfl ?_
      refine ⟨_, rfl, _, _, rfl, .inr hin, _, _, rfl, rfl, _, rfl, ifF (decide_eq_false (by show ¬ ((0 : Nat) : Int) > 1; omega)) ?_⟩
      refine ⟨k6, f, nf, ?_, _, _, _, _, _, rfl⟩
      rw [hf6, lnB_take hst, lnS_eq, hb0]
      rfl
    · rw [hb1] at hbs
      obtain ⟨x0, r, rfl, hx0, hr0⟩ := DpAll.cons_inv hbs
      obtain rfl := DpAll.nil_inv hr0
      have mb : b1 ∈ st.bodies := by rw [hb1]; exact List.mem_cons_self
      have d2 := dS_mem mb
      have c2 := cS_mem mb
      have hwb := wB_of (wB_all hw st hm) b1 mb
      refine ifT rfl ?_
      refine ⟨_, rfl, _, rfl, _, _, _, _, rfl, rfl, hin, at0, _, rfl, _, _, rfl, rfl, fl, b1, ind + 2, Dp.keep k6 hx0, rfl, hwb, by omega, by omega, by omega, fun p7 H7 s7 np7 hp7 => ?_⟩
      have hf7 := s7 _ _ hf6
      have l1 := lnB_cnt (ind + 2) b1
      refine ⟨f, p7, _, _, rfl, rfl, hf7, hp7, Nat.le_of_lt (small1000 (by rw [List.length_map, List.length_map, List.length_append]; show _ + 1 + _ ≤ 1000; omega)), fun p8 np8 => ?_⟩
      rw [← List.map_append]
      have s8 := smNew (k6.trans s7) np8 (.lst ((lnB ind (l.take i) ++ [line ind st.toks] ++ lnB (ind + 2) b1).map V.str))
      have s8' := smNew1 np8 (.lst ((lnB ind (l.take i) ++ [line ind st.toks] ++ lnB (ind + 2) b1).map V.str))
      refine ⟨_, rfl, _, _, rfl, .inr (smT (s7.trans s8') hin), _, _, rfl, rfl, _, rfl, ifF (decide_eq_false (by show ¬ ((1 : Nat) : Int) > 1; omega)) ?_⟩
      refine ⟨s8, p8, sm_none (k6.trans s7) np8, ?_, _, _, _, _, _, rfl⟩
      rw [upd_same, lnB_take hst, lnS_eq, hb1, List.append_assoc]
      rfl
    · rw [hb2] at hbs
      obtain ⟨x0, r, rfl, hx0, hr0⟩ := DpAll.cons_inv hbs
      obtain ⟨x1, r, rfl, hx1', hr1⟩ := DpAll.cons_inv hr0
      obtain rfl := DpAll.nil_inv hr1
      have mb1 : b1 ∈ st.bodies := by rw [hb2]; exact List.mem_cons_self
      have mb2 : b2 ∈ st.bodies := by rw [hb2]; exact List.mem_cons_of_mem _ List.mem_cons_self
      have d1 := dS_mem mb1
      have d2 := dS_mem mb2
      have c1 := cS_mem mb1
      have c2 := cS_mem mb2
      have wb1 := wB_of (wB_all hw st hm) b1 mb1
      have wb2 := wB_of (wB_all hw st hm) b2 mb2
      refine ifT rfl ?_
      refine ⟨_, rfl, _, rfl, _, _, _, _, rfl, rfl, hin, at0, _, rfl, _, _, rfl, rfl, fl, b1, ind + 2, Dp.keep k6 hx0, rfl, wb1, by omega, by omega, by omega, fun p7 H7 s7 np7 hp7 => ?_⟩
      have hf7 := s7 _ _ hf6
      have l1 := lnB_cnt (ind + 2) b1
      have l2 := lnB_cnt (ind + 2) b2
      refine ⟨f, p7, _, _, rfl, rfl, hf7, hp7, Nat.le_of_lt (small1000 (by rw [List.length_map, List.length_map, List.length_append]; show _ + 1 + _ ≤ 1000; omega)), fun p8 np8 => ?_⟩
      rw [← List.map_append]
      have s8 := smNew (k6.trans s7) np8 (.lst ((lnB ind (l.take i) ++ [line ind st.toks] ++ lnB (ind + 2) b1).map V.str))
      have s8' := smNew1 np8 (.lst ((lnB ind (l.take i) ++ [line ind st.toks] ++ lnB (ind + 2) b1).map V.str))
      have nf8 : H p8 = none := sm_none (k6.trans s7) np8
      have hin8 := smT (s7.trans s8') hin
      refine ⟨_, rfl, _, _, rfl, .inr hin8, _, _, rfl, rfl, _, rfl, ifT (decide_eq_true (by show ((2 : Nat) : Int) > 1; omega)) ?_⟩
      -- the else
      refine ⟨_, rfl, .inl ⟨rfl, _, SqL.of upd_same⟩, ?_⟩
      have el := else_len ind
      refine ⟨_, rfl, ind, rfl, rfl, by omega, _, _, rfl, rfl, ?_, ?_⟩
      · rw [← Str.length_append]
        exact Nat.le_of_lt (small1000 (by show (elseL ind).length ≤ 1000; omega))
      refine ⟨p8, _, _, rfl, rfl, upd_same, small1000 (by rw [List.length_map, List.length_append, List.length_append]; show _ + 1 + _ ≤ 1000; omega), ?_⟩
      rw [upd_upd]
      have k9 := smOut (k6.trans s7) nf8 (.lst ((lnB ind (l.take i) ++ [line ind st.toks] ++ lnB (ind + 2) b1).map V.str ++ [.str (spc ind ++ "else")]))
      have k9' := smNew1 np8 (.lst ((lnB ind (l.take i) ++ [line ind st.toks] ++ lnB (ind + 2) b1).map V.str ++ [.str (spc ind ++ "else")]))
      refine ⟨_, rfl, _, rfl, _, _, _, _, rfl, rfl, smT (s7.trans k9') hin, at1, _, rfl, _, _, rfl, rfl, fl, b2, ind + 2, Dp.keep k9 hx1', rfl, wb2, by omega, by omega, by omega, fun p10 H10 s10 np10 hp10 => ?_⟩
      have hf10 := s10 _ _ upd_same
      refine ⟨p8, p10, _, _, rfl, rfl, hf10, hp10, Nat.le_of_lt (small1000 (by rw [List.length_append, List.length_map, List.length_map, List.length_append, List.length_append]; show _ + 1 + _ + 1 + _ ≤ 1000; omega)), fun p11 np11 => ?_⟩
      refine ⟨smNew (k9.trans s10) np11 _, p11, sm_none (k9.trans s10) np11, ?_, _, _, _, _, _, rfl⟩
      rw [upd_same, lnB_take hst, lnS_eq, hb2]
      simp only [lnR, elseL, List.map_append, List.map_cons, List.map_nil, List.append_assoc, List.cons_append, List.nil_append]
  · rintro σ H1 ⟨s1, f, nf, hf, v3, v4, v5, v6, v7, rfl⟩
    rw [lx, List.take_length] at hf
    exact ⟨_, rfl, q f H1 s1 nf hf⟩
theorem c_body_lines (T : Top w K mg) : ∀ n, Cal P w K mg base CX0 (n + 1) "body_lines" (spLines K n)
  | 0 => cal_never (f_body_lines T) (g_body_lines T) (ps := ["body", "indent"]) (fun _ _ _ _ _ _ us hl => match us, hl with | [_, _], _ => rfl) fun vs H Q E h => by
      match vs, h with
      | [b, i], h =>
      obtain ⟨fl, l, ind, _, _, _, hn, _⟩ := h
      have := dB_one l
      omega
  | n + 1 => ok_body_lines T (c_body_lines T n)
end
end RM

set_option Elab.async false
set_option linter.all false
set_option maxRecDepth 100000
set_option maxHeartbeats 2000000
namespace RM
open PySem PySem.Spec PyProof.Rows L2
section
variable {P : Program} {w : World} {K : PySem.W.Frag} {mg : Str → Option Value} {base : Heap}
/-! ### bodies_of -/
def spBodies (K : PySem.W.Frag) : Sp := fun vs H Q _ => match vs with
  | [x] => ∃ (fl : Bool) (s : Stm), Dp K H x (encS fl s) ∧
    ∀ p H' ys, Same H H' → H p = none → H' p = some (.lst ys) → DpAll K H ys (s.bodies.map fun b => seqD fl (encB fl b)) → Q (.ref p) H'
  | _ => False
theorem sc_bodies_of : FnScope ["statement", "item", "sign"] ["statement"] (defScope s_bodies_of) := ⟨rfl, rfl, rfl, by decide +kernel, rfl, by decide +kernel, by decide +kernel⟩
theorem paired_dp {K : PySem.W.Frag} {H : Hp} : ∀ {ys : List V} {ds : List PyData}, Paired (fun y a => Dp K H y a) ys ds → DpAll K H ys ds
  | _, _, .nil => .nil
  | _, _, .cons h t => .cons h (paired_dp t)
theorem c_bodies_of (T : Top w K mg) : Cal P w K mg base CX0 1 "bodies_of" (spBodies K) := by
  refine cal_0 (f_bodies_of T) (g_bodies_of T) sc_bodies_of (fun _ _ _ _ _ _ us hl => match us, hl with | [_], _ => rfl) (fun vs H Q E h => match vs, h with | [_], _ => rfl) (fun cdv A outer s H vs Q E hr h => ?_)
  match vs, h with
  | [x], h =>
  obtain ⟨fl, s, hd, q⟩ := h
  obtain ⟨a, xs, rfl, ha, hx⟩ := shape_of hd
  have hl : xs.length = s.form.cps.size := ShapeS.items hx
  have i4 := form_five s
  refine ⟨_, (pss_one (ps_ret (pe_lc (own := [("item", 1), ("sign", 2)]) rfl sc_bodies_of.nd (pi_zipTS (by rfl) (z_zip T) (pa_cons (pe_slice sl_tup (pv 0) (po_some pe_int) po_none) (pa_cons (pe_ix ix_kdict (pglR (g_FORMS T)) (pe_ix ix_tup (pv 0) pe_int (fun _ _ => rfl)) (fun _ _ => rfl)) pa_nil))) (blkOk_by (own := [("item", 1), ("sign", 2)]) (N := ["statement", "item", "sign"]) (sc := defScope s_bodies_of) (by decide +kernel)) (fun _ _ _ _ _ => (pg_tup' (n := 2) (K := K) rfl rfl (pgs_cons (pg_name (i := 1) sc_bodies_of.nd rfl (Or.inl rfl) (Or.inr rfl)) (pgs_cons (pg_name (i := 2) sc_bodies_of.nd rfl (Or.inl rfl) (Or.inr rfl)) pgs_nil)) rfl rfl)) (fun _ _ _ _ _ => (pts_one (pt_cmpR op_eq (pv 2) pe_str (nomark _)))) (fun _ _ _ _ _ => (pv 1))))), ?_⟩
  refine ⟨_, rfl, _, rfl, _, _, rfl, ha, cut_not, fun p hp => ?_⟩
  rw [cut_tail]
  have s1 : Same H (upd H p (.tup xs)) := smNew1 hp _
  refine ⟨_, rfl, _, _, _, _, rfl, rfl, smT s1 ha, at0, _, _, _, rfl, rfl, kd_form T s, ?_⟩
  refine ⟨_, xs, _, rfl, SqT.of upd_same, fun D nD => ?_⟩
  have hDn : H D = none := s1.free nD
  refine lc_opt (walk_zipTS hl) (fun (d : PyData) y _ => Dp K H y d) (fun i => if s.signs[i]? = some 98 then (s.flats ++ s.bodies.map fun b => seqD fl (encB fl b))[i]? else none) nD (small1000 (by omega)) (fun H' e => smT e (SqT.of upd_same)) (fun _ _ _ _ h _ => h) (fun _ _ _ _ _ h _ => h) ?_ ?_
  · rintro i x H1 H2 N hi e ⟨t, y, z, rfl, ht, rfl, hy, hz⟩ hk hno
    obtain ⟨c, hc, rfl⟩ := Option.map_eq_some_iff.mp hz
    have hs := sign_at hc
    refine ⟨t, _, rfl, SqT.of upd_same, rfl, _, _, rfl, _, _, rfl, rfl, rfl, _, rfl, ?_⟩
    obtain ⟨d, hd1, hd2⟩ := DpAll.getV hx hy
    by_cases c98 : c = 98
    · subst c98
      refine ⟨rfl, _, rfl, ifT (by rw [str_b, sgn]; rfl) ?_⟩
      exact ⟨_, rfl, hk _ _ d (by rw [hs, if_pos rfl]; exact hd1) (smNew1 ht _) hd2⟩
    · refine ⟨rfl, _, rfl, ifF (by rw [str_b, sgn]; exact decide_eq_false c98) ?_⟩
      exact hno (by rw [hs, if_neg (fun z => c98 (Option.some.inj z))]) _ (smNew1 ht _)
  · intro H' ys e hD hp'
    have e2 : xs.length = (s.flats ++ s.bodies.map fun b => seqD fl (encB fl b)).length := DpAll.len hx
    rw [e2, bodies_sel] at hp'
    exact q D H' ys (fun b o z => e _ _ (s1 b o z)) hDn hD (paired_dp hp')
/-! ### check_body -/
def spCheck (K : PySem.W.Frag) (n : Nat) : Sp := fun vs H Q _ => match vs with
  | [b, p] => ∃ (fl : Bool) (l : List Stm) (pth : List Int), Dp K H b (seqD fl (encB fl l)) ∧ Dp K H p (pathD pth) ∧ wB l = true ∧ dB l ≤ n ∧ pth.length + 2 * n ≤ 1000 ∧ ∀ H', Same H H' → Q .non H'
  | _ => False
theorem sc_check_body : FnScope ["body", "path", "place", "statement", "here", "number", "inner"] ["body", "path"] (defScope s_check_body) := ⟨rfl, rfl, rfl, by decide +kernel, rfl, by decide +kernel, by decide +kernel⟩
theorem path_snoc {H : Hp} {a b : Addr} {p : List Int} {i : Int} {Q : VK} (ha : SqT K H a (p.map V.int)) (hb : SqT K H b [.int i]) (hl : p.length + 1 ≤ sizeLine)
    (q : ∀ v H', Same H H' → Dp K H' v (pathD (p ++ [i])) → Q v H') : CatG K (.ref a) (.ref b) H Q :=
  catA_of ha hb (by rw [List.length_map]; exact hl) fun t H' e h => q _ H' e (path_dp (by rw [List.map_append]; exact h))
theorem ok_check (T : Top w K mg) {n : Nat} (ih : Cal P w K mg base CX0 (n + 4) "check_body" (spCheck K n)) : Cal P w K mg base CX0 (n + 5) "check_body" (spCheck K (n + 1)) := by
  refine cal_0 (f_check_body T) (g_check_body T) sc_check_body (fun _ _ _ _ _ _ us hl => match us, hl with | [_, _], _ => rfl) (fun vs H Q E h => match vs, h with | [_, _], _ => rfl) (fun cdv A outer s H vs Q E hr h => ?_)
  match vs, h with
  | [b, p], h =>
  obtain ⟨fl, l, pth, hb, hp, hw, hn, hlen, q⟩ := h
  obtain ⟨a, xs, rfl, ha, hx⟩ := seqD_inv hb
  refine ⟨_, (pss_one (ps_for PassesOwn.never rfl (pi_enumA (by rfl) (z_enumerate T) (pa_cons (pv 0) pa_nil)) (pg_tup rfl (pgs_cons (pg_name (i := 2) sc_check_body.nd rfl (Or.inl rfl)) (pgs_cons (pg_name (i := 3) sc_check_body.nd rfl (Or.inl rfl)) pgs_nil)))
      (pss_cons (ps_set (i := 4) sc_check_body.nd rfl (Or.inl rfl) (pe_op op_catG (pv 1) (pe_tup (pa_cons (pv 2) pa_nil))))
    (pss_cons (ps_if (pt_not (pt_val (pc (c_is_statement T) hr (pa_cons (pv 3) pa_nil))))
      (pss_one ps_never)
      pss_nil)
    (pss_one (ps_for PassesOwn.never rfl (pi_enumA (by rfl) (z_enumerate T) (pa_cons (pc (c_bodies_of T) hr (pa_cons (pv 3) pa_nil)) pa_nil)) (pg_tup rfl (pgs_cons (pg_name (i := 5) sc_check_body.nd rfl (Or.inl rfl)) (pgs_cons (pg_name (i := 6) sc_check_body.nd rfl (Or.inl rfl)) pgs_nil)))
      (pss_one (ps_expr (pc ih hr (pa_cons (pv 6) (pa_cons (pe_op op_catG (pv 4) (pe_tup (pa_cons (pv 5) pa_nil))) pa_nil))))))))))), ?_⟩
  have lx : xs.length = l.length := by rw [DpAll.len hx, encB_map, List.length_map]
  refine ⟨_, rfl, ?_⟩
  refine enumA_of ha (Same.refl _) fun J wk => ?_
  refine for_it wk (fun i σ H' => Same H H' ∧ ∃ v2 v3 v4 v5 v6, σ = [some (.ref a), some p, v2, v3, v4, v5, v6]) ⟨Same.refl H, _, _, _, _, _, rfl⟩ (fun _ _ _ _ h => h.1) ?_ ?_
  · rintro i x σ H1 H2 hi ⟨s1, v2, v3, v4, v5, v6, rfl⟩ ⟨t, y, z, rfl, ht, rfl, hy, hz⟩
    obtain rfl : V.int (i : Nat) = y := Option.some.inj hy
    obtain ⟨d, hd1, hd2⟩ := DpAll.getV hx hz
    obtain ⟨st, hst, rfl⟩ := encB_get hd1
    have hm : st ∈ l := List.mem_of_getElem? hst
    have hws := wB_all hw st hm
    have s2 := smNew s1 ht (.tup [.int (i : Nat), z])
    refine ⟨t, _, rfl, SqT.of upd_same, rfl, _, _, rfl, _, _, rfl, rfl, ?_⟩
    -- here = path + (place,)
    obtain ⟨pa, rfl, hpa⟩ := path_inv (Dp.keep s2 hp)
    refine ⟨_, rfl, _, rfl, (by show 1 ≤ sizeLine; decide), fun p1 hp1 => ?_⟩
    have s3 := smNew s2 hp1 (.tup [.int (i : Nat)])
    refine path_snoc (smT (smNew1 hp1 _) hpa) (SqT.of upd_same) (Nat.le_of_lt (small1000 (by omega))) fun here H3 s3' hh => ?_
    have s4 : Same H H3 := s3.trans s3'
    -- if not is_statement(statement)
    refine ⟨_, rfl, fl, st, Dp.keep s4 hd2, wl_of hws, fun H4 e4 => ⟨_, rfl, iteF ?_⟩⟩
    have s5 : Same H H4 := s4.trans e4
    -- for number, inner in enumerate(bodies_of(statement))
    refine ⟨_, rfl, fl, st, Dp.keep s5 hd2, fun pb H5 ys e5 npb hpb hys => ?_⟩
    refine enumA_of (.inl (SqL.of hpb)) (Same.refl _) fun J2 wk2 => ?_
    refine for_it wk2 (fun j σ H' => Same H5 H' ∧ ∃ v5 v6, σ = [some (.ref a), some (.ref pa), some (.int (i : Nat)), some z, some here, v5, v6]) ⟨Same.refl H5, _, _, rfl⟩ (fun _ _ _ _ h => h.1) ?_ ?_
    · rintro j x2 σ2 H6 H7 hj ⟨s6, w5, w6, rfl⟩ ⟨t2, y2, z2, rfl, ht2, rfl, hy2, hz2⟩
      obtain rfl : V.int (j : Nat) = y2 := Option.some.inj hy2
      obtain ⟨d2, hd3, hd4⟩ := DpAll.getV hys hz2
      rw [List.getElem?_map] at hd3
      obtain ⟨bd, hbd, rfl⟩ := Option.map_eq_some_iff.mp hd3
      have hmb : bd ∈ st.bodies := List.mem_of_getElem? hbd
      have s7 : Same H4 H6 := e5.trans s6
      have s8 := smNew s7 ht2 (.tup [.int (j : Nat), z2])
      refine ⟨t2, _, rfl, SqT.of upd_same, rfl, _, _, rfl, _, _, rfl, rfl, ?_⟩
      obtain ⟨ha2, rfl, hha⟩ := path_inv (Dp.keep s8 (Dp.keep e4 hh))
      refine ⟨_, rfl, _, rfl, _, rfl, (by show 1 ≤ sizeLine; decide), fun p2 hp2 => ?_⟩
      refine path_snoc (smT (smNew1 hp2 _) hha) (SqT.of upd_same) (Nat.le_of_lt (small1000 (by rw [List.length_append]; show pth.length + 1 + 1 ≤ 1000; omega))) fun hv H8 s9 hhv => ?_
      have s10 : Same H4 H8 := (smNew s8 hp2 _).trans s9
      have d1 := dB_mem hm
      have d2' := dS_mem hmb
      refine ⟨fl, bd, _, Dp.keep s10 hd4, hhv, wB_of hws bd hmb, by omega, by rw [List.length_append, List.length_append]; show pth.length + 1 + 1 + 2 * n ≤ 1000; omega, fun H9 e9 => ?_⟩
      refine ⟨fun b o z => e9 _ _ ((smNew (smNew s6 ht2 _) hp2 _).trans s9 b o z), _, _, rfl⟩
    · rintro σ2 H6 ⟨s6, w5, w6, rfl⟩
      exact ⟨s5.trans (e5.trans s6), _, _, _, _, _, rfl⟩
  · rintro σ H1 ⟨s1, v2, v3, v4, v5, v6, rfl⟩
    exact q H1 s1
theorem c_check_body (T : Top w K mg) : ∀ n, Cal P w K mg base CX0 (n + 4) "check_body" (spCheck K n)
  | 0 => cal_never (f_check_body T) (g_check_body T) (ps := ["body", "path"]) (fun _ _ _ _ _ _ us hl => match us, hl with | [_, _], _ => rfl) fun vs H Q E h => by
      match vs, h with
      | [b, p], h =>
      obtain ⟨fl, l, pth, _, _, _, hn, _⟩ := h
      have := dB_one l
      omega
  | n + 1 => ok_check T (c_check_body T n)
end
end RM

set_option Elab.async false
set_option linter.all false
set_option maxRecDepth 100000
set_option maxHeartbeats 2000000
namespace RM
open PySem PySem.Spec PyProof.Rows L2
section
variable {P : Program} {w : World} {K : PySem.W.Frag} {mg : Str → Option Value} {base : Heap}
/-! ### as_tuples -/
def spAsT (K : PySem.W.Frag) (n : Nat) : Sp := fun vs H Q _ => match vs with
  | [b] => ∃ (fl fi : Bool) (l : List Stm), Dp K H b (seqD fl (encB fi l)) ∧ dB l ≤ n ∧ cB l ≤ 1000 ∧ ∀ v H', Same H H' → Dp K H' v (.tuple (encB false l)) → Q v H'
  | _ => False
theorem sc_as_tuples : FnScope ["body", "found", "statement", "form", "items", "item", "sign"] ["body"] (defScope s_as_tuples) := ⟨rfl, rfl, rfl, by decide +kernel, rfl, by decide +kernel, by decide +kernel⟩
theorem paired_dp2 {H : Hp} : ∀ {ys : List V} {ds : List PyData}, Paired (fun y a => Dp K H y a ∧ noL a = true) ys ds → DpAll K H ys ds
  | _, _, .nil => .nil
  | _, _, .cons h t => .cons h.1 (paired_dp2 t)
theorem ok_as_tuples (T : Top w K mg) {n : Nat} (ih : Cal P w K mg base CX0 (n + 1) "as_tuples" (spAsT K n)) : Cal P w K mg base CX0 (n + 2) "as_tuples" (spAsT K (n + 1)) := by
  refine cal_0 (f_as_tuples T) (g_as_tuples T) sc_as_tuples (fun _ _ _ _ _ _ us hl => match us, hl with | [_], _ => rfl) (fun vs H Q E h => match vs, h with | [_], _ => rfl) (fun cdv A outer s H vs Q E hr h => ?_)
  match vs, h with
  | [b], h =>
  obtain ⟨fl, fi, l, hb, hn, hc, q⟩ := h
  obtain ⟨a, xs, rfl, ha, hx⟩ := seqD_inv hb
  have lx : xs.length = l.length := by rw [DpAll.len hx, encB_map, List.length_map]
  have ll := cB_len l
  refine ⟨_, (pss_cons (ps_set (i := 1) sc_as_tuples.nd rfl (Or.inl rfl) (pe_lst pa_nil))
    (pss_cons (ps_for PassesOwn.never rfl (pi_seqA (pv 0)) (pg_name (i := 2) sc_as_tuples.nd rfl (Or.inl rfl))
      (pss_cons (ps_set (i := 3) sc_as_tuples.nd rfl (Or.inl rfl) (pe_ix ix_kdict (pglR (g_FORMS T)) (pe_ix ix_tup (pv 2) pe_int (fun _ _ => rfl)) (fun _ _ => rfl)))
    (pss_cons (ps_setLc (i := 4) (own := [("item", 5), ("sign", 6)]) rfl sc_as_tuples.nd rfl rfl (sw_true rfl rfl rfl (by decide +kernel)) (pi_zipTS (by rfl) (z_zip T) (pa_cons (pe_slice sl_tup (pv 2) (po_some pe_int) po_none) (pa_cons (pv 3) pa_nil))) (blkOk_by (own := [("item", 5), ("sign", 6)]) (N := ["body", "found", "statement", "form", "items", "item", "sign"]) (sc := defScope s_as_tuples) (by decide +kernel)) (fun _ _ _ _ _ => (pg_tup' (n := 2) (K := K) rfl rfl (pgs_cons (pg_name (i := 5) sc_as_tuples.nd rfl (Or.inl rfl) (Or.inr rfl)) (pgs_cons (pg_name (i := 6) sc_as_tuples.nd rfl (Or.inl rfl) (Or.inr rfl)) pgs_nil)) rfl rfl)) (fun _ _ _ _ _ => pts_nil) (fun _ _ _ _ _ => (pe_ifExp (pt_cmpR op_eq (pv 6) pe_str (nomark _)) (pc ih hr (pa_cons (pv 5) pa_nil)) (pv 5))))
    (pss_one (ps_expr (pe_bm PySem.F.plainAttrs_list PySem.F.slot_list_append PySem.F.type_list_append mt_append (pv 1) (pa_cons (pe_op op_catG (pe_tup (pa_cons (pe_ix ix_tup (pv 2) pe_int (fun _ _ => rfl)) pa_nil)) (pct (z_tuple T) call_tuple_of boot_tuple (pa_cons (pv 4) pa_nil))) pa_nil)))))))
    (pss_one (ps_ret (pct (z_tuple T) call_tuple_of boot_tuple (pa_cons (pv 1) pa_nil)))))), ?_⟩
  refine ⟨(by show 0 ≤ sizeLine; decide), fun fd nfd => ?_⟩
  have s0 := smNew1 nfd (.lst [])
  refine ⟨_, rfl, ?_⟩
  refine seqA_of ha s0 fun J wk => ?_
  refine for_it wk (fun i σ H' => Same H H' ∧ (∃ acc, H' fd = some (.lst acc) ∧ DpAll K H' acc (encB false (l.take i))) ∧ ∃ v2 v3 v4 v5 v6, σ = [some (.ref a), some (.ref fd), v2, v3, v4, v5, v6])
    ⟨s0, ⟨[], upd_same, .nil⟩, _, _, _, _, _, rfl⟩ (fun i σ H' _ h => h.1) ?_ ?_
  · rintro i x σ H1 H2 hi ⟨s1, ⟨acc, hacc, hdp⟩, v2, v3, v4, v5, v6, rfl⟩ ⟨rfl, hx1⟩
    obtain ⟨d, hd1, hd2⟩ := DpAll.getV hx hx1
    obtain ⟨st, hst, rfl⟩ := encB_get hd1
    have hm : st ∈ l := List.mem_of_getElem? hst
    obtain ⟨sa, sxs, rfl, hsa, hsx⟩ := shape_of hd2
    have hl : sxs.length = st.form.cps.size := ShapeS.items hsx
    have i4 := form_five st
    -- form = FORMS[statement[0]]
    refine ⟨_, rfl, _, _, _, _, rfl, rfl, smT s1 hsa, at0, _, _, _, rfl, rfl, kd_form T st, ?_⟩
    -- items = [..]
    refine ⟨_, rfl, _, rfl, _, _, rfl, smT s1 hsa, cut_not, fun p hp => ?_⟩
    rw [cut_tail]
    have s2 : Same H (upd H2 p (.tup sxs)) := smNew s1 hp _
    refine ⟨_, rfl, _, sxs, _, rfl, SqT.of upd_same, fun D nD => ?_⟩
    refine lc_opt (walk_zipTS hl) (fun (d : PyData) y H => Dp K H y d ∧ noL d = true) (fun i => (st.flats ++ st.bodies.map fun b => .tuple (encB false b))[i]?) nD (small1000 (by omega)) (fun H' e => smT e (SqT.of upd_same))
      (fun _ _ _ _ h e => ⟨Dp.keep e h.1, h.2⟩) (fun _ _ _ _ _ h e => ⟨dp_ts (ts_upd _ e trivial) h.1 h.2, h.2⟩) ?_ ?_
    · rintro j x H3 H4 N hj e ⟨t, y, z, rfl, ht, rfl, hy, hz⟩ hk _
      obtain ⟨c, hc, rfl⟩ := Option.map_eq_some_iff.mp hz
      have hs := sign_at hc
      refine ⟨t, _, rfl, SqT.of upd_same, rfl, _, _, rfl, _, _, rfl, rfl, rfl, ?_⟩
      refine yesI ?_
      have s3 : Same H (upd H3 t (.tup [y, .str ⟨#[c]⟩])) := smNew (s2.trans e) ht _
      obtain ⟨d, hd3, hd4⟩ := DpAll.getV hsx hy
      by_cases c98 : c = 98
      · subst c98
        obtain ⟨bd, hbd, hat⟩ := sign98 hs
        rw [hat] at hd3
        obtain rfl := Option.some.inj hd3
        have d1 := dB_mem hm
        have d2 := dS_mem hbd
        have c1 := cB_mem hm
        have c2 := cS_mem hbd
        refine ⟨_, rfl, rfl, _, rfl, ifT (by rw [str_b, sgn]; rfl) ?_⟩
        refine ⟨_, rfl, fi, fi, bd, Dp.keep s3 hd4, by omega, by omega, fun v H5 s5 hv => ?_⟩
        exact hk _ _ _ (hat _) ((smNew1 ht _).trans s5) ⟨hv, noL_encB bd⟩
      · obtain ⟨df, hno, hat⟩ := signFlat hs c98
        rw [hat] at hd3
        obtain rfl := Option.some.inj hd3
        refine ⟨_, rfl, rfl, _, rfl, ifF (by rw [str_b, sgn]; exact decide_eq_false c98) ?_⟩
        exact ⟨_, rfl, hk _ _ _ (hat _) (smNew1 ht _) ⟨Dp.keep s3 hd4, hno⟩⟩
    · intro H3 ys e hD hp'
      rw [hl, ← show st.signs.length = st.form.cps.size by rw [← signs_eq]; rfl, ← items_len st (fun b => .tuple (encB false b)), some_range] at hp'
      have hys := paired_dp2 hp'
      have s4 : Same H2 H3 := fun b o z => e _ _ (smNew1 hp _ b o z)
      have s5 : Same H H3 := s1.trans s4
      -- found.append((statement[0],) + tuple(items))
      refine ⟨_, rfl, .inl ⟨rfl, _, SqL.of (s4 _ _ hacc)⟩, ?_⟩
      refine ⟨_, rfl, _, _, _, _, rfl, rfl, smT s5 hsa, at0, (by show 1 ≤ sizeLine; decide), fun p1 hp1 => ?_⟩
      refine ⟨_, rfl, D, _, rfl, .inl ⟨SqL.of (smNew1 hp1 _ _ _ hD), fun p2 hp2 => ?_⟩⟩
      have s6 : Same H3 (upd (upd H3 p1 (.tup [.str st.word])) p2 (.tup ys)) := smNew (smNew1 hp1 _) hp2 _
      have lys : ys.length ≤ 10 := by
        have e1 := DpAll.len hys
        rw [items_len, ← signs_eq] at e1
        have : st.form.cps.toList.length = st.form.cps.size := rfl
        omega
      refine catA_of (smT (smNew1 hp2 _) (SqT.of upd_same)) (SqT.of upd_same) (Nat.le_of_lt (small1000 (by show 1 + ys.length ≤ 1000; omega))) fun t H4 s7 ht => ?_
      have s8 : Same H3 H4 := s6.trans s7
      have hacc4 := s8 _ _ (s4 _ _ hacc)
      have l1 := (List.getElem?_eq_some_iff.mp hst).1
      refine ⟨fd, acc, .ref t, rfl, rfl, hacc4, small1000 (by have := DpAll.len hdp; rw [encB_map, List.length_map, List.length_take] at this; omega), ?_⟩
      have dpt : Dp K H4 (.ref t) (encS false st) := by
        rw [encS_eq]
        exact .tup ht (.cons (.str _) (by
          have : (st.flats ++ st.bodies.map fun b => seqD false (encB false b)) = (st.flats ++ st.bodies.map fun b => .tuple (encB false b)) := rfl
          rw [this]
          exact DpAll.keep s8 hys))
      have tsF : TS K H4 (upd H4 fd (.lst (acc ++ [.ref t]))) := ts_upd _ hacc4 trivial
      refine ⟨smOut (s5.trans s8) nfd _, ⟨_, upd_same, ?_⟩, _, _, _, _, _, rfl⟩
      rw [take_more hst, encB_map, List.map_append, ← encB_map]
      exact DpAll.snoc (dps_ts tsF (DpAll.keep (s4.trans s8) hdp) (noL_encB _)) (dp_ts tsF dpt (noL_encS st))
  · rintro σ H1 ⟨s1, ⟨acc, hacc, hdp⟩, v2, v3, v4, v5, v6, rfl⟩
    rw [lx, List.take_length] at hdp
    refine ⟨_, rfl, fd, acc, rfl, .inl ⟨SqL.of hacc, fun p hp => ?_⟩⟩
    have s2 : Same H1 (upd H1 p (.tup acc)) := smNew1 hp _
    exact q _ _ (s1.trans s2) (.tup (SqT.of upd_same) (DpAll.keep s2 hdp))
theorem c_as_tuples (T : Top w K mg) : ∀ n, Cal P w K mg base CX0 (n + 1) "as_tuples" (spAsT K n)
  | 0 => cal_never (f_as_tuples T) (g_as_tuples T) (ps := ["body"]) (fun _ _ _ _ _ _ us hl => match us, hl with | [_], _ => rfl) fun vs H Q E h => by
      match vs, h with
      | [b], h =>
      obtain ⟨fl, fi, l, _, hn, _⟩ := h
      have := dB_one l
      omega
  | n + 1 => ok_as_tuples T (c_as_tuples T n)
end
end RM

set_option Elab.async false
set_option linter.all false
set_option maxRecDepth 100000
set_option maxHeartbeats 2000000
namespace RM
open PySem PySem.Spec PyProof.Rows L2
section
variable {P : Program} {w : World} {K : PySem.W.Frag} {mg : Str → Option Value} {base : Heap}
/-! ### all_statements -/
def allD (as : List (List Int × Stm)) : List PyData := as.map fun q => .tuple [pathD q.1, encS false q.2]
theorem noL_allD (as : List (List Int × Stm)) : noLs (allD as) = true := noLs_of fun d h => by
  obtain ⟨q, _, rfl⟩ := List.mem_map.mp h
  show (noL (pathD q.1) && (noL (encS false q.2) && true)) = true
  rw [noL_path, noL_encS]
  rfl
theorem allD_app (a b : List (List Int × Stm)) : allD (a ++ b) = allD a ++ allD b := List.map_append
theorem allD_len (a : List (List Int × Stm)) : (allD a).length = a.length := List.length_map _
def spAll (K : PySem.W.Frag) (n : Nat) : Sp := fun vs H Q _ => match vs with
  | [b, p] => ∃ (l : List Stm) (pth : List Int), Dp K H b (.tuple (encB false l)) ∧ Dp K H p (pathD pth) ∧ dB l ≤ n ∧ cB l ≤ 1000 ∧ pth.length + 2 * n ≤ 1000 ∧
    ∀ r H' ys, Same H H' → H r = none → H' r = some (.lst ys) → DpAll K H' ys (allD (aB pth 0 l)) → Q (.ref r) H'
  | _ => False
theorem sc_all_statements : FnScope ["body", "path", "found", "place", "statement", "here", "number", "inner"] ["body", "path"] (defScope s_all_statements) := ⟨rfl, rfl, rfl, by decide +kernel, rfl, by decide +kernel, by decide +kernel⟩
theorem ok_all (T : Top w K mg) {n : Nat} (ih : Cal P w K mg base CX0 (n + 1) "all_statements" (spAll K n)) : Cal P w K mg base CX0 (n + 2) "all_statements" (spAll K (n + 1)) := by
  refine cal_0 (f_all_statements T) (g_all_statements T) sc_all_statements (fun _ _ _ _ _ _ us hl => match us, hl with | [_, _], _ => rfl) (fun vs H Q E h => match vs, h with | [_, _], _ => rfl) (fun cdv A outer s H vs Q E hr h => ?_)
  match vs, h with
  | [b, p], h =>
  obtain ⟨l, pth, hb, hp, hn, hc, hlen, q⟩ := h
  obtain ⟨a, xs, rfl, ha, hx⟩ := Dp.tup_inv hb
  have lx : xs.length = l.length := by rw [DpAll.len hx, encB_map, List.length_map]
  have ll := cB_len l
  refine ⟨_, (pss_cons (ps_set (i := 2) sc_all_statements.nd rfl (Or.inl rfl) (pe_lst pa_nil))
    (pss_cons (ps_for PassesOwn.never rfl (pi_enumA (by rfl) (z_enumerate T) (pa_cons (pv 0) pa_nil)) (pg_tup rfl (pgs_cons (pg_name (i := 3) sc_all_statements.nd rfl (Or.inl rfl)) (pgs_cons (pg_name (i := 4) sc_all_statements.nd rfl (Or.inl rfl)) pgs_nil)))
      (pss_cons (ps_set (i := 5) sc_all_statements.nd rfl (Or.inl rfl) (pe_op op_catG (pv 1) (pe_tup (pa_cons (pv 3) pa_nil))))
    (pss_cons (ps_expr (pe_bm PySem.F.plainAttrs_list PySem.F.slot_list_append PySem.F.type_list_append mt_append (pv 2) (pa_cons (pe_tup (pa_cons (pv 5) (pa_cons (pv 4) pa_nil))) pa_nil)))
    (pss_one (ps_for PassesOwn.never rfl (pi_enumA (by rfl) (z_enumerate T) (pa_cons (pc (c_bodies_of T) hr (pa_cons (pv 4) pa_nil)) pa_nil)) (pg_tup rfl (pgs_cons (pg_name (i := 6) sc_all_statements.nd rfl (Or.inl rfl)) (pgs_cons (pg_name (i := 7) sc_all_statements.nd rfl (Or.inl rfl)) pgs_nil)))
      (pss_one (ps_set (i := 2) sc_all_statements.nd rfl (Or.inl rfl) (pe_op op_cat (pv 2) (pc ih hr (pa_cons (pv 7) (pa_cons (pe_op op_catG (pv 5) (pe_tup (pa_cons (pv 6) pa_nil))) pa_nil)))))))))))
    (pss_one (ps_ret (pv 2))))), ?_⟩
  refine ⟨(by show 0 ≤ sizeLine; decide), fun fd nfd => ?_⟩
  refine ⟨_, rfl, ?_⟩
  refine enumA_of (.inr ha) (smNew1 nfd _) fun J wk => ?_
  refine for_it wk (fun i σ H' => Same H H' ∧ ∃ g acc, H g = none ∧ H' g = some (.lst acc) ∧ DpAll K H' acc (allD (aB pth 0 (l.take i))) ∧ ∃ v3 v4 v5 v6 v7, σ = [some (.ref a), some p, some (.ref g), v3, v4, v5, v6, v7])
    ⟨smNew1 nfd _, fd, [], nfd, upd_same, .nil, _, _, _, _, _, rfl⟩ (fun i σ H' _ h => h.1) ?_ ?_
  · rintro i x σ H1 H2 hi ⟨s1, g, acc, ng, hacc, hdp, v3, v4, v5, v6, v7, rfl⟩ ⟨t, y, z, rfl, ht, rfl, hy, hz⟩
    obtain rfl : V.int (i : Nat) = y := Option.some.inj hy
    obtain ⟨d, hd1, hd2⟩ := DpAll.getV hx hz
    obtain ⟨st, hst, rfl⟩ := encB_get hd1
    have hm : st ∈ l := List.mem_of_getElem? hst
    have l1 := (List.getElem?_eq_some_iff.mp hst).1
    have lt := cB_mem hm
    have s2 := smNew s1 ht (.tup [.int (i : Nat), z])
    refine ⟨t, _, rfl, SqT.of upd_same, rfl, _, _, rfl, _, _, rfl, rfl, ?_⟩
    -- here = path + (place,)
    obtain ⟨pa, rfl, hpa⟩ := path_inv (Dp.keep s2 hp)
    refine ⟨_, rfl, _, rfl, (by show 1 ≤ sizeLine; decide), fun p1 hp1 => ?_⟩
    refine path_snoc (smT (smNew1 hp1 _) hpa) (SqT.of upd_same) (Nat.le_of_lt (small1000 (by omega))) fun here H3 s3 hh => ?_
    have t3 : Same H1 H3 := (smNew (smNew1 ht _) hp1 _).trans s3
    have s4 : Same H H3 := s1.trans t3
    -- found.append((here, statement))
    refine ⟨_, rfl, .inl ⟨rfl, _, SqL.of (t3 _ _ hacc)⟩, ?_⟩
    refine ⟨_, rfl, _, rfl, (by show 2 ≤ sizeLine; decide), fun p2 hp2 => ?_⟩
    have t5 := smNew t3 hp2 (.tup [here, z])
    have lacc : acc.length = (aB pth 0 (l.take i)).length := by rw [DpAll.len hdp, allD_len]
    have lim : ∀ j, (aB pth 0 (l.take j)).length ≤ 1000 := fun j => by
      have e : aB pth 0 l = aB pth 0 (l.take j) ++ aB pth (0 + (l.take j).length) (l.drop j) := by rw [← aB_app, List.take_append_drop]
      have e2 := congrArg List.length e
      rw [aB_len, List.length_append] at e2
      omega
    have lim0 := lim i
    refine ⟨g, acc, _, rfl, rfl, t5 _ _ hacc, small1000 (by omega), ?_⟩
    obtain ⟨H5, e5⟩ : ∃ H5, H5 = upd (upd H3 p2 (.tup [here, z])) g (.lst (acc ++ [.ref p2])) := ⟨_, rfl⟩
    rw [← e5]
    have ts5 : TS K (upd H3 p2 (.tup [here, z])) H5 := by rw [e5]; exact ts_upd _ (t5 _ _ hacc) trivial
    have hg5 : H5 g = some (.lst (acc ++ [.ref p2])) := by rw [e5]; exact upd_same
    have s5 : Same H H5 := by rw [e5]; exact smOut (smNew s4 hp2 _) ng _
    have dh5 : Dp K H5 here (pathD (pth ++ [(i : Int)])) := dp_ts ts5 (Dp.keep (smNew1 hp2 _) hh) (noL_path _)
    have dq : Dp K (upd H3 p2 (.tup [here, z])) (.ref p2) (.tuple [pathD (pth ++ [(i : Int)]), encS false st]) :=
      .tup (SqT.of upd_same) (.cons (Dp.keep (smNew1 hp2 _) hh) (.cons (Dp.keep (smNew s4 hp2 _) hd2) .nil))
    have d5 : DpAll K H5 (acc ++ [.ref p2]) (allD (aB pth 0 (l.take i) ++ (pth ++ [(i : Int)], st) :: aBs (pth ++ [(i : Int)]) 0 (st.bodies.take 0))) := by
      rw [allD_app]
      exact dps_ts ts5 (DpAll.snoc (DpAll.keep t5 hdp) dq) (noLs_app (noL_allD _) (by
        show (noL (.tuple [pathD (pth ++ [(i : Int)]), encS false st]) && true) = true
        show ((noL (pathD (pth ++ [(i : Int)])) && (noL (encS false st) && true)) && true) = true
        rw [noL_path, noL_encS]
        rfl))
    -- for number, inner in enumerate(bodies_of(statement))
    refine ⟨_, rfl, false, st, Dp.keep s5 hd2, fun pb H6 ys e6 npb hpb hys => ?_⟩
    refine enumA_of (.inl (SqL.of hpb)) (Same.refl _) fun J2 wk2 => ?_
    have ly : ys.length = st.bodies.length := by rw [DpAll.len hys, List.length_map]
    refine for_it wk2 (fun j σ H' => Same H6 H' ∧ ∃ g2 acc2, H g2 = none ∧ H' g2 = some (.lst acc2) ∧ DpAll K H' acc2 (allD (aB pth 0 (l.take i) ++ (pth ++ [(i : Int)], st) :: aBs (pth ++ [(i : Int)]) 0 (st.bodies.take j))) ∧
        ∃ v6 v7, σ = [some (.ref a), some (.ref pa), some (.ref g2), some (.int (i : Nat)), some z, some here, v6, v7])
      ⟨Same.refl H6, g, _, ng, e6 _ _ hg5, DpAll.keep e6 d5, _, _, rfl⟩ (fun _ _ _ _ h => h.1) ?_ ?_
    · rintro j x2 σ2 H7 H8 hj ⟨s7, g2, acc2, ng2, hacc2, hdp2, w6, w7, rfl⟩ ⟨t2, y2, z2, rfl, ht2, rfl, hy2, hz2⟩
      obtain rfl : V.int (j : Nat) = y2 := Option.some.inj hy2
      obtain ⟨d2, hd3, hd4⟩ := DpAll.getV hys hz2
      rw [List.getElem?_map] at hd3
      obtain ⟨bd, hbd, rfl⟩ := Option.map_eq_some_iff.mp hd3
      have hmb : bd ∈ st.bodies := List.mem_of_getElem? hbd
      have t8 := smNew1 ht2 (.tup [.int (j : Nat), z2])
      refine ⟨t2, _, rfl, SqT.of upd_same, rfl, _, _, rfl, _, _, rfl, rfl, ?_⟩
      -- found = found + all_statements(inner, here + (number,))
      have s8 : Same H5 (upd H7 t2 (.tup [.int (j : Nat), z2])) := (e6.trans s7).trans t8
      obtain ⟨ha2, rfl, hha⟩ := path_inv (Dp.keep s8 dh5)
      refine ⟨_, rfl, _, rfl, _, rfl, _, rfl, (by show 1 ≤ sizeLine; decide), fun p3 hp3 => ?_⟩
      refine path_snoc (smT (smNew1 hp3 _) hha) (SqT.of upd_same) (Nat.le_of_lt (small1000 (by rw [List.length_append]; show pth.length + 1 + 1 ≤ 1000; omega))) fun hv H9 s9 hhv => ?_
      have t9 : Same H7 H9 := (smNew t8 hp3 _).trans s9
      have d1 := dB_mem hm
      have d2' := dS_mem hmb
      have c2 := cS_mem hmb
      have hd5 := Dp.keep (e6.trans (s7.trans t9)) hd4
      refine ⟨bd, _, hd5, hhv, by omega, by omega, by rw [List.length_append, List.length_append]; show pth.length + 1 + 1 + 2 * n ≤ 1000; omega, fun r H10 zs e10 nr hr2 hzs => ?_⟩
      have t10 : Same H7 H10 := t9.trans e10
      have lz : zs.length = cB bd := by rw [DpAll.len hzs, allD_len, aB_len]
      have la2 : acc2.length ≤ 1000 := by
        have e1 := DpAll.len hdp2
        rw [allD_len] at e1
        have e2 : aB pth 0 (l.take (i + 1)) = aB pth 0 (l.take i) ++ (pth ++ [(i : Int)], st) :: aBs (pth ++ [(i : Int)]) 0 st.bodies := by rw [aB_take hst, aS_eq]
        have e3 : aBs (pth ++ [(i : Int)]) 0 st.bodies = aBs (pth ++ [(i : Int)]) 0 (st.bodies.take j) ++ aBs (pth ++ [(i : Int)]) (0 + (st.bodies.take j).length) (st.bodies.drop j) := by rw [← aBs_app, List.take_append_drop]
        have e4 := lim (i + 1)
        rw [e2, e3, List.length_append, List.length_cons, List.length_append] at e4
        rw [List.length_append, List.length_cons] at e1
        omega
      refine ⟨g2, r, acc2, zs, rfl, rfl, t10 _ _ hacc2, hr2, Nat.le_of_lt (Nat.lt_of_le_of_lt (show acc2.length + zs.length ≤ 2000 by omega) (by decide)), fun pn hpn => ?_⟩
      have t11 := smNew t10 hpn (.lst (acc2 ++ zs))
      refine ⟨s7.trans t11, pn, _, ?_, upd_same, ?_, _, _, rfl⟩
      · exact (s5.trans (e6.trans (s7.trans t10))).free hpn
      · rw [aBs_take hbd, ← List.cons_append, ← List.append_assoc, allD_app]
        exact DpAll.app (DpAll.keep t11 hdp2) (DpAll.keep (smNew1 hpn _) hzs)
    · rintro σ2 H7 ⟨s7, g2, acc2, ng2, hacc2, hdp2, w6, w7, rfl⟩
      rw [ly, List.take_length, ← aS_eq, ← aB_take hst] at hdp2
      exact ⟨s5.trans (e6.trans s7), g2, acc2, ng2, hacc2, hdp2, _, _, _, _, _, rfl⟩
  · rintro σ H1 ⟨s1, g, acc, ng, hacc, hdp, v3, v4, v5, v6, v7, rfl⟩
    rw [lx, List.take_length] at hdp
    exact ⟨_, rfl, q g H1 acc s1 ng hacc hdp⟩
theorem c_all_statements (T : Top w K mg) : ∀ n, Cal P w K mg base CX0 (n + 1) "all_statements" (spAll K n)
  | 0 => cal_never (f_all_statements T) (g_all_statements T) (ps := ["body", "path"]) (fun _ _ _ _ _ _ us hl => match us, hl with | [_, _], _ => rfl) fun vs H Q E h => by
      match vs, h with
      | [b, p], h =>
      obtain ⟨l, pth, _, _, hn, _⟩ := h
      have := dB_one l
      omega
  | n + 1 => ok_all T (c_all_statements T n)
/-! ### depth_of -/
def spDepth (K : PySem.W.Frag) (n : Nat) : Sp := fun vs H Q _ => match vs with
  | [b] => ∃ (l : List Stm), Dp K H b (.tuple (encB false l)) ∧ dB l ≤ n ∧ ∀ H', Same H H' → Q (.int (dB l : Nat)) H'
  | _ => False
theorem sc_depth_of : FnScope ["body", "deepest", "statement", "inner"] ["body"] (defScope s_depth_of) := ⟨rfl, rfl, rfl, by decide +kernel, rfl, by decide +kernel, by decide +kernel⟩
theorem ok_depth (T : Top w K mg) {n : Nat} (ih : Cal P w K mg base CX0 (n + 1) "depth_of" (spDepth K n)) : Cal P w K mg base CX0 (n + 2) "depth_of" (spDepth K (n + 1)) := by
  refine cal_0 (f_depth_of T) (g_depth_of T) sc_depth_of (fun _ _ _ _ _ _ us hl => match us, hl with | [_], _ => rfl) (fun vs H Q E h => match vs, h with | [_], _ => rfl) (fun cdv A outer s H vs Q E hr h => ?_)
  match vs, h with
  | [b], h =>
  obtain ⟨l, hb, hn, q⟩ := h
  obtain ⟨a, xs, rfl, ha, hx⟩ := Dp.tup_inv hb
  have lx : xs.length = l.length := by rw [DpAll.len hx, encB_map, List.length_map]
  refine ⟨_, (pss_cons (ps_set (i := 1) sc_depth_of.nd rfl (Or.inl rfl) pe_int)
    (pss_cons (ps_for PassesOwn.never rfl (pi_seqA (pv 0)) (pg_name (i := 2) sc_depth_of.nd rfl (Or.inl rfl))
      (pss_one (ps_for PassesOwn.never rfl (pi_seqA (pc (c_bodies_of T) hr (pa_cons (pv 2) pa_nil))) (pg_name (i := 3) sc_depth_of.nd rfl (Or.inl rfl))
      (pss_one (ps_set (i := 1) sc_depth_of.nd rfl (Or.inl rfl) (pcb (z_max T) (call_max2 rfl) boot_max (pa_cons (pv 1) (pa_cons (pc ih hr (pa_cons (pv 3) pa_nil)) pa_nil))))))))
    (pss_one (ps_ret (pe_op op_add (pv 1) pe_int))))), ?_⟩
  refine ⟨_, rfl, ?_⟩
  refine seqA_of (.inr ha) (Same.refl _) fun J wk => ?_
  refine for_it wk (fun i σ H' => Same H H' ∧ ∃ v2 v3, σ = [some (.ref a), some (.int ((dB (l.take i) : Nat) - 1 : Int)), v2, v3]) ⟨Same.refl H, none, none, rfl⟩ (fun i σ H' _ h => h.1) ?_ ?_
  · rintro i x σ H1 H2 hi ⟨s1, v2, v3, rfl⟩ ⟨rfl, hx1⟩
    obtain ⟨d, hd1, hd2⟩ := DpAll.getV hx hx1
    obtain ⟨st, hst, rfl⟩ := encB_get hd1
    have hm : st ∈ l := List.mem_of_getElem? hst
    have d1 := dB_mem hm
    refine ⟨_, rfl, false, st, Dp.keep s1 hd2, fun pb H3 ys e3 npb hpb hys => ?_⟩
    have ly : ys.length = st.bodies.length := by rw [DpAll.len hys, List.length_map]
    refine seqA_of (.inl (SqL.of hpb)) (Same.refl _) fun J2 wk2 => ?_
    have o1 := dB_one (l.take i)
    refine for_it wk2 (fun j σ H' => Same H3 H' ∧ ∃ v3, σ = [some (.ref a), some (.int ((max (dB (l.take i) - 1) (dBs (st.bodies.take j)) : Nat) : Int)), some x, v3]) ⟨Same.refl H3, v3, ?_⟩ (fun _ _ _ _ h => h.1) ?_ ?_
    · have e : ((max (dB (l.take i) - 1) (dBs (st.bodies.take 0)) : Nat) : Int) = ((dB (l.take i) : Nat) : Int) - 1 := by
        show ((max (dB (l.take i) - 1) 0 : Nat) : Int) = _
        omega
      rw [e]
      rfl
    · rintro j x2 σ2 H4 H5 hj ⟨s4, w3, rfl⟩ ⟨rfl, hx2⟩
      obtain ⟨d2, hd3, hd4⟩ := DpAll.getV hys hx2
      rw [List.getElem?_map] at hd3
      obtain ⟨bd, hbd, rfl⟩ := Option.map_eq_some_iff.mp hd3
      have d2' := dS_mem (List.mem_of_getElem? hbd)
      have hd5 := Dp.keep (e3.trans s4) hd4
      refine ⟨_, rfl, _, rfl, bd, hd5, by omega, fun H6 e6 => ?_⟩
      refine ⟨_, _, rfl, s4.trans e6, some x2, ?_⟩
      rw [take_more hbd, dBs_snoc]
      have e : (if ((dB bd : Nat) : Int) > ((max (dB (l.take i) - 1) (dBs (st.bodies.take j)) : Nat) : Int) then ((dB bd : Nat) : Int) else ((max (dB (l.take i) - 1) (dBs (st.bodies.take j)) : Nat) : Int)) =
          ((max (dB (l.take i) - 1) (max (dBs (st.bodies.take j)) (dB bd)) : Nat) : Int) := by
        split <;> omega
      rw [← e]
      rfl
    · rintro σ2 H4 ⟨s4, w3, rfl⟩
      refine ⟨s1.trans (e3.trans s4), some x, w3, ?_⟩
      rw [ly, List.take_length, ← dS_eq, take_more hst, dB_snoc]
      have e : ((max (dB (l.take i) - 1) (dS st) : Nat) : Int) = ((max (dB (l.take i)) (dS st + 1) : Nat) : Int) - 1 := by omega
      rw [e]
  · rintro σ H1 ⟨s1, v2, v3, rfl⟩
    refine ⟨_, rfl, _, _, rfl, rfl, ?_⟩
    have e : V.int (((dB (l.take xs.length) : Nat) : Int) - 1 + 1) = V.int ((dB l : Nat) : Int) := by
      rw [lx, List.take_length]
      exact congrArg V.int (by omega)
    show Q (V.int (((dB (l.take xs.length) : Nat) : Int) - 1 + 1)) H1
    rw [e]
    exact q H1 s1
theorem c_depth_of (T : Top w K mg) : ∀ n, Cal P w K mg base CX0 (n + 1) "depth_of" (spDepth K n)
  | 0 => cal_never (f_depth_of T) (g_depth_of T) (ps := ["body"]) (fun _ _ _ _ _ _ us hl => match us, hl with | [_], _ => rfl) fun vs H Q E h => by
      match vs, h with
      | [b], h =>
      obtain ⟨l, _, hn, _⟩ := h
      have := dB_one l
      omega
  | n + 1 => ok_depth T (c_depth_of T n)
end
end RM

set_option Elab.async false
set_option linter.all false
set_option maxRecDepth 100000
set_option maxHeartbeats 2000000
namespace RM
open PySem PySem.Spec PyProof.Rows L2
section
variable {P : Program} {w : World} {K : PySem.W.Frag} {mg : Str → Option Value} {base : Heap}
/-! ### check_size -/
def spSize (K : PySem.W.Frag) : Sp := fun vs H Q _ => match vs with
  | [b] => ∃ (l : List Stm), Dp K H b (.tuple (encB false l)) ∧ dB l ≤ 4 ∧ cB l ≤ 60 ∧ ∀ H', Same H H' → Q .non H'
  | _ => False
theorem sc_check_size : FnScope ["body"] ["body"] (defScope s_check_size) := ⟨rfl, rfl, rfl, by decide +kernel, rfl, by decide +kernel, by decide +kernel⟩
theorem path0 {K : PySem.W.Frag} {H : Hp} {a : Addr} (h : SqT K H a []) : Dp K H (.ref a) (pathD []) := .tup h .nil
theorem c_check_size (T : Top w K mg) : Cal P w K mg base CX0 6 "check_size" (spSize K) := by
  refine cal_0 (f_check_size T) (g_check_size T) sc_check_size (fun _ _ _ _ _ _ us hl => match us, hl with | [_], _ => rfl) (fun vs H Q E h => match vs, h with | [_], _ => rfl) (fun cdv A outer s H vs Q E hr h => ?_)
  match vs, h with
  | [b], h =>
  obtain ⟨l, hb, hd, hc, q⟩ := h
  refine ⟨_, (pss_cons (ps_if (pt_cmpR op_gt (pcb (z_len T) call_len_seq boot_len (pa_cons (pc (c_all_statements T 4) hr (pa_cons (pv 0) (pa_cons (pe_tup pa_nil) pa_nil))) pa_nil)) (pglI (i_MOST T)) (nomark _))
      (pss_one ps_never)
      pss_nil)
    (pss_one (ps_if (pt_cmpR op_gt (pc (c_depth_of T 4) hr (pa_cons (pv 0) pa_nil)) (pglI (i_DEEPEST T)) (nomark _))
      (pss_one ps_never)
      pss_nil))), ?_⟩
  refine ⟨_, rfl, (by show 0 ≤ sizeLine; decide), fun p hp => ?_⟩
  have s1 : Same H (upd H p (.tup [])) := smNew1 hp _
  refine ⟨l, [], Dp.keep s1 hb, path0 (SqT.of upd_same), hd, by omega, by show 0 + 2 * 4 ≤ 1000; omega, fun r H1 ys e1 hr1 hr2 hys => ?_⟩
  have hl : ys.length = cB l := by rw [DpAll.len hys, allD_len, aB_len]
  refine ⟨r, ys, rfl, .inl (SqL.of hr2), _, _, rfl, rfl, _, rfl, ?_⟩
  refine ifF (decide_eq_false (by show ¬ ((60 : Int) < (ys.length : Nat)); omega)) ?_
  have s2 : Same H H1 := s1.trans e1
  refine ⟨_, rfl, l, Dp.keep s2 hb, hd, fun H2 s3 => ?_⟩
  refine ⟨_, _, rfl, rfl, _, rfl, ?_⟩
  refine ifF (decide_eq_false (by show ¬ ((4 : Int) < (dB l : Nat)); omega)) ?_
  exact q H2 (s2.trans s3)
end
end RM

set_option Elab.async false
set_option linter.all false
set_option maxRecDepth 100000
set_option maxHeartbeats 2000000
namespace RM
open PySem PySem.Spec PyProof.Rows L2
section
variable {P : Program} {w : World} {K : PySem.W.Frag} {mg : Str → Option Value} {base : Heap}
/-! ### Program -/
def PrgAt (K : PySem.W.Frag) (H : Hp) (a : Addr) (l : List Stm) : Prop := ∃ dx v, H a = some (.ins (He.ga K "Program") dx [("body", v)]) ∧ Dp K H v (.tuple (encB false l))
theorem PrgAt.keep {H H' : Hp} {a : Addr} {l : List Stm} (e : Same H H') (p : PrgAt K H a l) : PrgAt K H' a l := let ⟨dx, v, h, d⟩ := p; ⟨dx, v, e _ _ h, Dp.keep e d⟩
def spInit (K : PySem.W.Frag) : Sp := fun vs H Q _ => match vs with
  | [x, b] => ∃ a dx fl l, x = .ref a ∧ H a = some (.ins (He.ga K "Program") dx []) ∧ Dp K H b (seqD fl (encB fl l)) ∧ wB l = true ∧ dB l ≤ 4 ∧ cB l ≤ 60 ∧
    ∀ H', (∀ b u, b ≠ a → H b = some u → H' b = some u) → PrgAt K H' a l → Q .non H'
  | _ => False
theorem sc_Program_init : FnScope ["self", "body"] ["self", "body"] (defScope s_Program_init) := ⟨rfl, rfl, rfl, by decide +kernel, rfl, by decide +kernel, by decide +kernel⟩
theorem c_Program_init (T : Top w K mg) : Mak P w K mg base CX0 9 "Program" (He.ga K "Program") (spInit K) := by
  refine mak_0 (f_Program_init T) (mk_Program T) (g_Program T) sc_Program_init (fun _ _ _ _ _ _ us hl => match us, hl with | [_, _], _ => rfl) (fun vs H Q E h => match vs, h with | [_, _], _ => rfl) (fun cdv A outer s H vs Q E hr h => ?_)
  match vs, h with
  | [x, b], h =>
  obtain ⟨a, dx, fl, l, rfl, ha, hb, hw, hd, hc, q⟩ := h
  obtain ⟨b, xs, rfl, hb1, hb2⟩ := seqD_inv hb
  refine ⟨_, (pss_cons (ps_if (pt_not (pt_val (pcb (z_isinstance T) call_isiT boot_isinstance (pa_cons (pv 1) (pa_cons (pe_tup (pa_cons (pty (z_list T) boot_list) (pa_cons (pty (z_tuple T) boot_tuple) pa_nil))) pa_nil)))))
      (pss_one ps_never)
      pss_nil)
    (pss_cons (ps_expr (pc (c_check_body T 4) hr (pa_cons (pv 1) (pa_cons (pe_tup pa_nil) pa_nil))))
    (pss_cons (ps_fld (pv 0) (pc (c_as_tuples T 4) hr (pa_cons (pv 1) pa_nil)) rfl)
    (pss_one (ps_expr (pc (c_check_size T) hr (pa_cons (pe_fld (pv 0) rfl) pa_nil))))))), ?_⟩
  refine ⟨_, rfl, (by show 2 ≤ sizeLine; decide), fun p hp => ?_⟩
  have s1 : Same H (upd H p (.tup [.ty "list", .ty "tuple"])) := smNew1 hp _
  obtain ⟨ty, ht, hk⟩ := ty_seq hb1 s1
  refine ⟨_, p, _, ty, _, true, rfl, upd_same, .cons (.ty _) (.cons (.ty _) .nil), ht, hk, _, rfl, ?_⟩
  refine ifF rfl ?_
  refine ⟨_, rfl, (by show 0 ≤ sizeLine; decide), fun p2 hp2 => ?_⟩
  have s2 := smNew s1 hp2 (.tup [])
  refine ⟨fl, l, [], Dp.keep s2 hb, path0 (SqT.of upd_same), hw, hd, by show 0 + 2 * 4 ≤ 1000; omega, fun H3 s3 => ?_⟩
  have s4 : Same H H3 := s2.trans s3
  refine ⟨_, rfl, fl, fl, l, Dp.keep s4 hb, hd, by omega, fun v H4 s5 hv => ?_⟩
  have s6 := s4.trans s5
  have ha4 := s6 _ _ ha
  refine ⟨_, rfl, a, _, dx, [], rfl, ha4, k_Program T, na_Program_body T, by decide, ?_⟩
  have ts : TS K H4 (upd H4 a (.ins (He.ga K "Program") dx [("body", v)])) := ts_upd _ ha4 trivial
  have hv5 := dp_ts ts hv (noL_tuple (noL_encB l))
  refine ⟨_, rfl, a, _, dx, _, v, rfl, upd_same, k_Program T, na_Program_body T, rfl, l, hv5, hd, hc, fun H6 s7 => ?_⟩
  refine q H6 (fun b u hb hu => s7 _ _ ?_) ⟨dx, v, s7 _ _ upd_same, Dp.keep s7 hv5⟩
  rw [upd_ne hb]
  exact s6 _ _ hu
/-! ### == -/
def spPEq (K : PySem.W.Frag) : Sp := fun vs H Q _ => match vs with
  | [x, y] => ∃ a b l m, x = .ref a ∧ y = .ref b ∧ PrgAt K H a l ∧ PrgAt K H b m ∧ wB l = true ∧ wB m = true ∧ dB l ≤ 4 ∧ dB m ≤ 4 ∧ Q (.bl (PyData.eqv (.tuple (encB false l)) (.tuple (encB false m)))) H
  | _ => False
theorem sc_Program_eq : FnScope ["self", "other"] ["self", "other"] (defScope s_Program_eq) := ⟨rfl, rfl, rfl, by decide +kernel, rfl, by decide +kernel, by decide +kernel⟩
theorem c_Program_eq (T : Top w K mg) : Own P w K mg base 1 (He.ga K "Program") "__eq__" (spPEq K) := by
  refine own_0 (f_Program_eq T) (spc_Program_eq T) sc_Program_eq (fun _ _ _ _ _ _ us hl => match us, hl with | [_, _], _ => rfl) (fun vs H Q E h => match vs, h with | [_, _], _ => rfl) (fun cdv A outer s H vs Q E hr h => ?_)
  match vs, h with
  | [x, y], h =>
  obtain ⟨a, b, l, m, rfl, rfl, ⟨dx, v, ha, hv⟩, ⟨dy, u, hb, hu⟩, wl, wm, hl, hm, q⟩ := h
  refine ⟨_, (pss_cons (ps_if (pt_not (pt_val (pcb (z_isinstance T) call_isi boot_isinstance (pa_cons (pv 1) (pa_cons (pglR (g_Program T)) pa_nil)))))
      (pss_one ps_never)
      pss_nil)
    (pss_one (ps_ret (pe_cmpR (op_eqD (room64 hr)) (pe_fld (pv 0) rfl) (pe_fld (pv 1) rfl) (nomark _))))), ?_⟩
  refine ⟨_, rfl, _, _, _, _, true, rfl, .own _, .base (insB_ty (ins_Program T) (k_Program T) hb), kitC_ok (kit_Program_Program T), ?_⟩
  refine ⟨_, rfl, ifF rfl ?_⟩
  refine ⟨_, rfl, a, _, dx, _, v, rfl, ha, k_Program T, na_Program_body T, rfl, ?_⟩
  refine ⟨_, rfl, b, _, dy, _, u, rfl, hb, k_Program T, na_Program_body T, rfl, ?_⟩
  exact ⟨_, _, hv, hu, shaped_encB (fl := false) wl hl, shaped_encB (fl := false) wm hm, q⟩
end
end RM

set_option Elab.async false
set_option linter.all false
set_option maxRecDepth 100000
set_option maxHeartbeats 2000000
set_option pp.maxSteps 400
set_option pp.deepTerms false
namespace RM
open PySem PySem.Spec PyProof.Rows L2
section
variable {P : Program} {w : World} {K : PySem.W.Frag} {mg : Str → Option Value} {base : Heap}
mutual
theorem lnS_each (i : Nat) : ∀ s : Stm, wS s = true → ∀ z ∈ lnS i s, z.length ≤ i + 2 * dS s + 21
  | .read v k, h, z, hz => by
    rw [lnS, List.mem_singleton] at hz
    have := line_len (i := i) (wl_of h)
    rw [hz]; omega
  | .set v n, h, z, hz => by
    rw [lnS, List.mem_singleton] at hz
    have := line_len (i := i) (wl_of h)
    rw [hz]; omega
  | .copy v u, h, z, hz => by
    rw [lnS, List.mem_singleton] at hz
    have := line_len (i := i) (wl_of h)
    rw [hz]; omega
  | .print v, h, z, hz => by
    rw [lnS, List.mem_singleton] at hz
    have := line_len (i := i) (wl_of h)
    rw [hz]; omega
  | .say n, h, z, hz => by
    rw [lnS, List.mem_singleton] at hz
    have := line_len (i := i) (wl_of h)
    rw [hz]; omega
  | .wait, h, z, hz => by
    rw [lnS, List.mem_singleton] at hz
    have := line_len (i := i) (wl_of h)
    rw [hz]; omega
  | .stop, h, z, hz => by
    rw [lnS, List.mem_singleton] at hz
    have := line_len (i := i) (wl_of h)
    rw [hz]; omega
  | .ite v n a b, h, z, hz => by
    have hl := line_len (i := i) (wl_of h)
    have el := else_len i
    simp only [wS, Bool.and_eq_true] at h
    have h1 := lnB_each (i + 2) a h.2.1
    have h2 := lnB_each (i + 2) b h.2.2
    simp only [lnS, List.mem_cons, List.mem_append] at hz
    simp only [dS]
    rcases hz with rfl | hz | rfl | hz
    · omega
    · have := h1 z hz; omega
    · omega
    · have := h2 z hz; omega
  | .same v u a b, h, z, hz => by
    have hl := line_len (i := i) (wl_of h)
    have el := else_len i
    simp only [wS, Bool.and_eq_true] at h
    have h1 := lnB_each (i + 2) a h.2.1
    have h2 := lnB_each (i + 2) b h.2.2
    simp only [lnS, List.mem_cons, List.mem_append] at hz
    simp only [dS]
    rcases hz with rfl | hz | rfl | hz
    · omega
    · have := h1 z hz; omega
    · omega
    · have := h2 z hz; omega
  | .rep n a, h, z, hz => by
    have hl := line_len (i := i) (wl_of h)
    simp only [wS, Bool.and_eq_true] at h
    have h1 := lnB_each (i + 2) a h.2
    simp only [lnS, List.mem_cons] at hz
    simp only [dS]
    rcases hz with rfl | hz
    · omega
    · have := h1 z hz; omega
theorem lnB_each (i : Nat) : ∀ l : List Stm, wB l = true → ∀ z ∈ lnB i l, z.length + 2 ≤ i + 2 * dB l + 21
  | [], _, z, hz => by simp [lnB] at hz
  | s :: r, h, z, hz => by
    simp only [wB, Bool.and_eq_true] at h
    rw [lnB, List.mem_append] at hz
    simp only [dB]
    rcases hz with hz | hz
    · have := lnS_each i s h.1 z hz; omega
    · have := lnB_each i r h.2 z hz; omega
end
theorem sum_le {l : List Str} {m : Nat} (h : ∀ z ∈ l, z.length ≤ m) : (l.map (·.length)).sum ≤ l.length * m := by
  induction l with
  | nil => simp
  | cons a r ih =>
    have h1 := h a List.mem_cons_self
    have h2 := ih fun z hz => h z (List.mem_cons_of_mem _ hz)
    rw [List.map_cons, List.sum_cons, List.length_cons, Nat.add_mul]
    omega
def textOf (l : List Stm) : Str := Txt.join "\n" (lnB 0 l)
theorem feed_one : ("\n" : Str).length = 1 := by decide +kernel
theorem lines_fit {l : List Stm} (hw : wB l = true) (hd : dB l ≤ 4) (hc : cB l ≤ 60) : ((lnB 0 l).map (·.length)).sum + (lnB 0 l).length * ("\n" : Str).length ≤ 10000 := by
  have h1 : ((lnB 0 l).map (·.length)).sum ≤ (lnB 0 l).length * 30 := sum_le fun z hz => by have := lnB_each 0 l hw z hz; omega
  have h2 := lnB_cnt 0 l
  rw [feed_one]
  have h3 : (lnB 0 l).length * 30 ≤ 120 * 30 := Nat.mul_le_mul_right _ (by omega)
  omega
/-! ### write -/
def spWrite (K : PySem.W.Frag) : Sp := fun vs H Q _ => match vs with
  | [x] => ∃ a l, x = .ref a ∧ PrgAt K H a l ∧ wB l = true ∧ dB l ≤ 4 ∧ cB l ≤ 60 ∧ ∀ H', Same H H' → Q (.str (textOf l)) H'
  | _ => False
theorem sc_write : FnScope ["program"] ["program"] (defScope s_write) := ⟨rfl, rfl, rfl, by decide +kernel, rfl, by decide +kernel, by decide +kernel⟩
theorem c_write (T : Top w K mg) : Cal P w K mg base CX0 6 "write" (spWrite K) := by
  refine cal_0 (f_write T) (g_write T) sc_write (fun _ _ _ _ _ _ us hl => match us, hl with | [_], _ => rfl) (fun vs H Q E h => match vs, h with | [_], _ => rfl) (fun cdv A outer s H vs Q E hr h => ?_)
  match vs, h with
  | [x], h =>
  obtain ⟨a, l, rfl, ⟨dx, v, ha, hv⟩, hw, hd, hc, q⟩ := h
  refine ⟨_, (pss_one (ps_ret (pe_join pe_str (pc (c_body_lines T 4) hr (pa_cons (pe_fld (pv 0) rfl) (pa_cons pe_int pa_nil)))))), ?_⟩
  refine ⟨⟨_, rfl⟩, _, rfl, _, _, dx, _, _, rfl, ha, k_Program T, na_Program_body T, rfl, ?_⟩
  refine ⟨false, l, 0, hv, rfl, hw, hd, by omega, by omega, fun p H1 s1 np hp => ?_⟩
  refine ⟨_, p, _, rfl, rfl, .inl (SqL.of hp), Nat.le_trans (lines_fit hw hd hc) (by decide), ?_⟩
  exact q H1 s1
end
end RM

set_option Elab.async false
set_option linter.all false
set_option maxRecDepth 100000
/-! zip(a list, a text) -/
namespace RM
open PySem PySem.Spec
open PyProof.Rows
open L2
def ItzLS (K : PySem.W.Frag) (a : Addr) (z : Str) : It :=
  ⟨fun i H => ∃ (xs : List V) (x : V) (c : Nat), SqL K H a xs ∧ xs[i]? = some x ∧ z.cps[i]? = some c,
    fun i H v H' => ∃ T x c, v = .ref T ∧ H T = none ∧ H' = upd H T (.tup [x, .str ⟨#[c]⟩]) ∧ (∀ xs, SqL K H a xs → xs[i]? = some x) ∧ z.cps[i]? = some c,
    fun i H => ∃ xs : List V, SqL K H a xs ∧ min xs.length z.cps.size = i⟩
theorem turn_zipLS {P : Program} {w : World} {K : PySem.W.Frag} {elts : List Expr} {kk : Nat} {tpos : Pos} {a z TI TO i1 i2 : Addr} {x : Str} {tx : Tok} (S : ZipSep2 z TI TO i1 i2 [i1, a] [i2]) (hai : a ≠ i1) :
    Turn P w K (.Tuple elts kk tpos) (ItzLS K a x) [z, TI, TO, i1, i2] z (fun i h => IsZip h z TI TO .none ∧ IsTupOf2 h TI (.ref i1) (.ref i2) ∧ (∃ a1 a2, IsTupOf2 h TO a1 a2) ∧ h.IsListIter i1 a i ∧ h.IsStrIter i2 (strIterType x) x tx i) := by
  refine turn_pair (by simp) (fun i h st b hb => ?_) (fun i h h' st k => ?_) (fun A i s Q E st h => wpAny_pyIter_zip st.1 h) ?_ ?_
  · obtain ⟨zi, ti, ⟨_, _, to_⟩, ⟨o1, e1, _, d1⟩, ⟨o2, e2, _, d2⟩⟩ := st
    simp only [List.mem_cons, List.not_mem_nil, or_false] at hb ⊢
    have fl : ∀ {o : Obj} {vs : Array Value}, o.data = .fields vs → ∀ v, o.data ≠ .cell v := fun d v no => by simp [d] at no
    obtain rfl | rfl | rfl | rfl | rfl := hb
    · exact ⟨_, zi, fun v => nofun⟩
    · exact ⟨_, ti, fun v => nofun⟩
    · exact ⟨_, to_, fun v => nofun⟩
    · exact ⟨o1, e1, fl d1⟩
    · exact ⟨o2, e2, fl d2⟩
  · obtain ⟨hz, hTI, ⟨a1, a2, hTO⟩, h1, h2⟩ := st
    exact ⟨k z (by simp) _ hz, k TI (by simp) _ hTI, ⟨a1, a2, k TO (by simp) _ hTO⟩, h1.at fun o q => k i1 (by simp) o q, let ⟨o, ho, r⟩ := h2; ⟨o, k i2 (by simp) o ho, r⟩⟩
  · rintro X rfl rfl rfl i pins s σ H I hh ⟨hz, hTI, hTO, h1, h2⟩ ⟨xs, y, c, hq, hx, hc⟩
    obtain ⟨its, rv, p, _⟩ := I.list hq
    obtain ⟨u, hu, ru⟩ := Vals.get (xs := xs) rv hx
    have pt : s.heap.IsList a its.toArray := p.isList
    have W := GoesN.zip2 (prog := X.prog) (w := X.w) (A := X.A) (elts := elts) (x1 := kk) (pos := tpos) S (Draws.list (prog := X.prog) (w := X.w) (A := X.A.in1) hh i1 a hai its.toArray) (Draws.text (prog := X.prog) (w := X.w) (A := X.A.in1) hh i2 x tx)
    refine ⟨_, _, _, _, _, W, ?_, ⟨hz, hTI, hTO, ⟨h1, pt⟩, h2⟩, by simp, ?_⟩
    · have l1 : i < its.length := (List.getElem?_eq_some_iff.mp hu).1
      have l2 : i < x.cps.size := (Array.getElem?_eq_some_iff.mp hc).1
      simp only [List.size_toArray]
      omega
    · rintro v h' ⟨T, x', y', rfl, hT, hx', ⟨c', t', hc', rfl⟩, ht⟩ ⟨hz', hTI', hTO', ⟨h1', _⟩, h2'⟩
      have hx2 : its[i]? = some x' := by simpa using hx'
      rw [hu] at hx2
      cases hx2
      rw [hc] at hc'
      cases hc'
      refine ⟨T, _, _, y, .str ⟨#[c]⟩, rfl, hT, ht, ru, ⟨t', rfl⟩, ⟨hz', hTI', hTO', h1', h2'⟩, T, y, c, rfl, I.hok.fresh hT, rfl, fun l hl => ?_, hc⟩
      rw [I.list_inj hl hq]
      exact hx
  · rintro X rfl rfl rfl i pins s σ H I hh ⟨hz, hTI, hTO, h1, h2⟩ ⟨xs, hq, hl⟩
    obtain ⟨its, rv, p, _⟩ := I.list hq
    have pt : s.heap.IsList a its.toArray := p.isList
    have W := GoesN.zip2 (prog := X.prog) (w := X.w) (A := X.A) (elts := elts) (x1 := kk) (pos := tpos) S (Draws.list (prog := X.prog) (w := X.w) (A := X.A.in1) hh i1 a hai its.toArray) (Draws.text (prog := X.prog) (w := X.w) (A := X.A.in1) hh i2 x tx)
    have hl2 : min its.toArray.size x.cps.size = i := by
      have q := rv.length
      simp only [List.size_toArray]
      omega
    rw [hl2] at W
    exact ⟨_, _, _, _, W, ⟨hz, hTI, hTO, ⟨h1, pt⟩, h2⟩, by simp⟩
def iZipLS (K : PySem.W.Frag) (ta : TA) : TI := fun σ H R => ta σ H fun vs H1 => ∃ a xs z, vs = [.ref a, .str z] ∧ SqL K H1 a xs ∧ R (ItzLS K a z) H1
theorem pi_zipLS {X : Cx} {e e2 : Expr} {ta : TA} {p pos tpos : Pos} {elts : List Expr} {kk : Nat} (hg : Gl X "zip") (hm : X.mg "zip" = none) (ha : PA X [e, e2] ta)
    (two : starEach [e, e2] X.env = (false, eval e X.env) :: starEach [e2] X.env := by rfl)
    (plain : (backTo pos (starEach [e2] X.env)).any (·.1) = false := by rfl) : PI X (.Tuple elts kk tpos) (.Call (.Name "zip" p) [e, e2] [] pos) (iZipLS X.K ta) := by
  constructor
  intro pins s σ H R inv pre
  refine Call_ (ld_blt inv hg hm PyProof.Rows.boot_zip (PyProof.Rows.callWith_type1 (thn (ha.run pos pins s σ H _ inv pre) ?_) two plain))
  rintro us s1 ⟨_, H1, inv1, rel, a, xs, z, rfl, sq, r⟩
  obtain ⟨_, u, rfl, rfl, ⟨tx, rfl⟩⟩ := vals2 rel
  obtain ⟨its, _, at_, _⟩ := inv1.list sq
  have low : a < s1.heap.objs.size := at_.lt
  have sep := zip_sep2 (N := s1.heap.objs.size) (fp1 := [a]) (fp2 := []) (fun b hb => (List.mem_singleton.mp hb).symm ▸ low) nofun
  exact zip_begins2 (begins_list a its.toArray) (begins_text z tx) at_.isList trivial fun hp zi ti to_ i1 i2 _ old =>
    wpAny_pyIter_zip zi ⟨_, _, _, _, H1, rfl, inv1.kept (t' := s1.toks) old, turn_zipLS sep (Nat.ne_of_lt low), ⟨zi, ti, ⟨_, _, to_⟩, ⟨_, i1, rfl, rfl⟩, ⟨_, i2, rfl, rfl⟩⟩, late5 inv1, r⟩
theorem walk_zipLS {K : PySem.W.Frag} {a : Addr} {xs : List V} {z : Str} (hl : xs.length = z.cps.size) : Walk (ItzLS K a z) xs.length (fun H => SqL K H a xs) (YPair (fun i => xs[i]?) (fun i => (z.cps[i]?).map fun c => .str ⟨#[c]⟩)) where
  goes := fun i H hi h => ⟨xs, xs[i], z.cps[i]'(by omega), h, by simp [hi], by simp⟩
  stops := fun H h => ⟨xs, h, by omega⟩
  yields := fun i H x H' hi h ⟨T, y, c, e1, e2, e3, e4, e5⟩ => ⟨T, y, _, e1, e2, e3, e4 xs h, by show Option.map _ z.cps[i]? = _; rw [e5]; rfl⟩
end RM

set_option Elab.async false
set_option linter.all false
set_option maxRecDepth 100000
set_option maxHeartbeats 2000000
set_option pp.maxSteps 400
set_option pp.deepTerms false
namespace RM
open PySem PySem.Spec PyProof.Rows L2
section
variable {P : Program} {w : World} {K : PySem.W.Frag} {mg : Str → Option Value} {base : Heap}
/-! ### number_of -/
def optV : Option Int → V
  | none => .non
  | some n => .int n
def spNum : Sp := fun vs H Q _ => match vs with
  | [x] => ∃ z : Str, x = .str z ∧ z.length ≤ 1000 ∧ Q (optV (numOf z)) H
  | _ => False
theorem sc_number_of : FnScope ["word", "figures", "figure"] ["word"] (defScope s_number_of) := ⟨rfl, rfl, rfl, by decide +kernel, rfl, by decide +kernel, by decide +kernel⟩
theorem minus_iff (z : Str) : V.str (cutS z none (some 1)) = V.str "-" ↔ (cl z).take 1 = [45] := by
  have e : cl ("-" : Str) = [45] := by decide +kernel
  constructor
  · intro h
    injection h with h1
    have h2 := congrArg cl h1
    rwa [show (some (1 : Int)) = some ((1 : Nat) : Int) from rfl, cut_pre, e] at h2
  · intro h
    refine congrArg V.str (str_ext ?_)
    show cl (cutS z none (some ((1 : Nat) : Int))) = cl "-"
    rw [cut_pre, e, h]
theorem zero_iff (z : Str) : V.str z = V.str "0" ↔ cl z = [48] := by
  have e : cl ("0" : Str) = [48] := by decide +kernel
  constructor
  · intro h
    injection h with h1
    rw [h1, e]
  · intro h
    exact congrArg V.str (str_ext (h.trans e.symm))
theorem numOf_no {z : Str} (h : (figs z).length = 0 ∨ 2 < (figs z).length ∨ ((figs z)[0]? = some 48 ∧ cl z ≠ [48]) ∨ (figs z).all isDig = false) : numOf z = none := by unfold numOf; rw [if_pos h]
theorem numOf_yes {z : Str} (h : ¬ ((figs z).length = 0 ∨ 2 < (figs z).length ∨ ((figs z)[0]? = some 48 ∧ cl z ≠ [48]) ∨ (figs z).all isDig = false)) : ∃ n, PySem.intText? z = some n ∧ numOf z = some n := by
  have h' := h
  simp only [not_or, Bool.not_eq_false] at h'
  obtain ⟨n, e, _⟩ := fig_int h'.1 h'.2.1 h'.2.2.2
  exact ⟨n, e, by unfold numOf; rw [if_neg h, e]⟩
theorem figs_len (z : Str) : (figs z).length ≤ z.length := by
  rw [← cl_len]
  unfold figs
  split
  · rw [List.length_drop]; omega
  · exact Nat.le_refl _
theorem figs_more (z : Str) : z.length ≤ (figs z).length + 1 := by
  rw [← cl_len]
  unfold figs
  split
  · rw [List.length_drop]; omega
  · omega
theorem c_number_of (T : Top w K mg) : Cal P w K mg base CX0 1 "number_of" spNum := by
  refine cal_0 (f_number_of T) (g_number_of T) sc_number_of (fun _ _ _ _ _ _ us hl => match us, hl with | [_], _ => rfl) (fun vs H Q E h => match vs, h with | [_], _ => rfl) (fun cdv A outer s H vs Q E hr h => ?_)
  match vs, h with
  | [x], h =>
  obtain ⟨z, rfl, hz, q⟩ := h
  have hz' : z.length ≤ sizeLine := Nat.le_of_lt (small1000 hz)
  have no := fun h => show Q .non H from by have := q; rw [numOf_no h] at this; exact this
  refine ⟨_, (pss_cons (ps_set (i := 1) sc_number_of.nd rfl (Or.inl rfl) (pv 0))
    (pss_cons (ps_mid (ps_if (pt_cmpR op_eq (pe_slice sl_str (pv 0) po_none (po_some pe_int)) pe_str (nomark _))
      (pss_one (ps_set (i := 1) sc_number_of.nd rfl (Or.inl rfl) (pe_slice sl_str (pv 0) (po_some pe_int) po_none)))
      pss_nil))
    (pss_cons (ps_mid (ps_if (PW.pt (pw_or (pt_not (pt_chain op_le op_le pe_int (pcb (z_len T) call_len_str boot_len (pa_cons (pv 1) pa_nil)) pe_int)) (pw_or1 (PW.pt (pw_and (pt_cmpR op_eq (pe_ix ix_str (pv 1) pe_int (fun _ _ => rfl)) pe_str (nomark _)) (pw_and1 (pt_cmpR op_ne (pv 0) pe_str (nomark _))))))))
      (pss_one (ps_ret pe_non))
      pss_nil))
    (pss_cons (ps_for PassesOwn.never rfl (pi_str (pv 1)) (pg_name (i := 2) sc_number_of.nd rfl (Or.inl rfl))
      (pss_one (ps_if (pt_cmpR op_notIn_sign (pv 2) (pglS (i_FIGURES T)) rfl)
      (pss_one (ps_ret pe_non))
      pss_nil)))
    (pss_one (ps_ret (pct (z_int T) call_int_str boot_int (pa_cons (pv 0) pa_nil)))))))), ?_⟩
  refine ⟨_, rfl, fun σ H' => H' = H ∧ ∃ F v, σ = [some (.str z), some (.str F), v] ∧ cl F = figs z, ?_, ?_⟩
  · refine ⟨_, rfl, _, rfl, z, rfl, hz', rfl, _, rfl, ?_⟩
    refine ifB (fun c => ?_) (fun c => ?_)
    · refine ⟨_, rfl, _, rfl, z, rfl, hz', rfl, _, _, rfl, ?_⟩
      have := (minus_iff z).mp (of_decide_eq_true c)
      rw [show (some (1 : Int)) = some ((1 : Nat) : Int) from rfl, cut_suf]
      unfold figs
      rw [if_pos this]
    · refine ⟨rfl, z, _, rfl, ?_⟩
      have := fun h => of_decide_eq_false c ((minus_iff z).mpr h)
      unfold figs
      rw [if_neg this]
  · rintro σ H' ⟨rfl, F, v, rfl, hF⟩
    have lF : F.length = (figs z).length := by rw [← cl_len, hF]
    have lz := figs_len z
    refine ⟨fun σ H1 => H1 = H' ∧ ∃ F v, σ = [some (.str z), some (.str F), v] ∧ cl F = figs z ∧ ¬ ((figs z).length = 0 ∨ 2 < (figs z).length ∨ ((figs z)[0]? = some 48 ∧ cl z ≠ [48])), ?_, ?_⟩
    · refine ⟨_, rfl, _, rfl, Nat.le_of_lt (small1000 (by omega)), _, _, rfl, rfl, _, rfl, ?_⟩
      by_cases c1 : 1 ≤ (F.length : Int)
      case neg =>
        rw [decide_eq_false c1]
        exact iteF ⟨_, rfl, iteT (iteT (no (.inl (by omega))))⟩
      rw [decide_eq_true c1]
      refine iteT ?_
      refine ⟨_, _, rfl, rfl, _, rfl, ?_⟩
      by_cases c2 : (F.length : Int) ≤ 2
      case neg =>
        rw [decide_eq_false c2]
        exact iteT (iteT (no (.inr (.inl (by omega)))))
      rw [decide_eq_true c2]
      refine iteF ?_
      obtain ⟨c0, hc0⟩ : ∃ c0, (cl F)[0]? = some c0 := ⟨(cl F)[0]'(by rw [cl_len]; omega), by simp⟩
      have hc1 := hc0
      rw [hF] at hc1
      refine ⟨_, rfl, F, 0, c0, rfl, rfl, Nat.le_of_lt (small1000 (by omega)), atI_nat (j := 0) hc0, rfl, _, rfl, ?_⟩
      have e0 : ("0" : Str) = ⟨#[48]⟩ := by decide +kernel
      rw [e0, sgn]
      by_cases c3 : c0 = 48
      · subst c3
        refine iteT ?_
        refine ⟨_, rfl, rfl, _, rfl, ?_⟩
        by_cases c4 : cl z = [48]
        · refine ifF (by rw [← e0, decide_eq_true ((zero_iff z).mpr c4)]; rfl) ?_
          exact ⟨rfl, F, v, rfl, hF, by rw [not_or, not_or]; exact ⟨by omega, by omega, fun h => h.2 c4⟩⟩
        · refine ifT (by rw [← e0, decide_eq_false fun h => c4 ((zero_iff z).mp h)]; rfl) ?_
          exact no (.inr (.inr (.inl ⟨hc1, c4⟩)))
      · rw [decide_eq_false c3]
        refine iteF (iteF ⟨rfl, F, v, rfl, hF, ?_⟩)
        rw [not_or, not_or]
        exact ⟨by omega, by omega, fun h => c3 (by rw [hc1] at h; exact Option.some.inj h.1)⟩
    rintro σ H' ⟨rfl, F, v, rfl, hF, ok⟩
    have lF : F.length = (figs z).length := by rw [← cl_len, hF]
    refine ⟨_, rfl, F, rfl, for_it walk_str (fun i σ H1 => H1 = H' ∧ (∃ v, σ = [some (.str z), some (.str F), v]) ∧ ((figs z).take i).all isDig = true) ⟨rfl, ⟨_, rfl⟩, rfl⟩ (fun _ _ _ _ _ => trivial) ?_ ?_⟩
    · rintro i x σ H1 H2 hi ⟨rfl, ⟨v, rfl⟩, hal⟩ ⟨rfl, c, hc, rfl⟩
      have hc' : (figs z)[i]? = some c := by rw [← hF]; simpa using hc
      refine ⟨_, rfl, c, _, rfl, rfl, _, rfl, ?_⟩
      by_cases m : c ∈ ("0123456789" : Str).cps.toList
      · rw [decide_eq_true m]
        refine iteF ⟨rfl, ⟨_, rfl⟩, ?_⟩
        rw [List.take_add_one, hc', List.all_append, hal]
        show ([c].all isDig) = true
        simp only [List.all_cons, List.all_nil, Bool.and_true]
        exact decide_eq_true m
      · rw [decide_eq_false m]
        refine iteT (no (.inr (.inr (.inr ?_))))
        rw [List.all_eq_false]
        exact ⟨c, List.mem_of_getElem? hc', by unfold isDig; rw [decide_eq_false m]; exact Bool.false_ne_true⟩
    · rintro σ H1 ⟨rfl, ⟨v, rfl⟩, hal⟩
      have lf : F.cps.toList.length = (figs z).length := by rw [← hF]
      rw [List.take_of_length_le (by first | omega | (rw [← hF]; simp))] at hal
      obtain ⟨n, e1, e2⟩ := numOf_yes (z := z) (by rw [not_or, not_or, not_or]; rw [not_or, not_or] at ok; exact ⟨ok.1, ok.2.1, ok.2.2, by rw [hal]; simp⟩)
      rw [e2] at q
      refine ⟨_, rfl, z, n, rfl, e1, ?_, q⟩
      have := figs_more z
      omega
end
end RM

set_option Elab.async false
set_option linter.all false
set_option maxRecDepth 100000
set_option maxHeartbeats 2000000
set_option pp.maxSteps 400
set_option pp.deepTerms false
namespace RM
open PySem PySem.Spec PyProof.Rows L2
section
variable {P : Program} {w : World} {K : PySem.W.Frag} {mg : Str → Option Value} {base : Heap}
/-! ### item_of -/
def itemOf (z : Str) (c : Nat) : V :=
  if c = 107 then (if isWord z = true then .str z else .non) else
    match numOf z with
    | none => .non
    | some n => if c = 116 ∧ ¬ (0 ≤ n ∧ n ≤ 3) then .non else .int n
def spItem : Sp := fun vs H Q _ => match vs with
  | [x, f] => ∃ (z : Str) (c : Nat), x = .str z ∧ z.length ≤ 1000 ∧ f = .str ⟨#[c]⟩ ∧ Q (itemOf z c) H
  | _ => False
theorem str_t : ("t" : Str) = ⟨#[116]⟩ := by decide +kernel
theorem sc_item_of : FnScope ["word", "sign", "number"] ["word", "sign"] (defScope s_item_of) := ⟨rfl, rfl, rfl, by decide +kernel, rfl, by decide +kernel, by decide +kernel⟩
theorem c_item_of (T : Top w K mg) : Cal P w K mg base CX0 2 "item_of" spItem := by
  refine cal_0 (f_item_of T) (g_item_of T) sc_item_of (fun _ _ _ _ _ _ us hl => match us, hl with | [_, _], _ => rfl) (fun vs H Q E h => match vs, h with | [_, _], _ => rfl) (fun cdv A outer s H vs Q E hr h => ?_)
  match vs, h with
  | [x, f], h =>
  obtain ⟨z, c, rfl, hz, rfl, q⟩ := h
  unfold itemOf at q
  refine ⟨_, (pss_cons (ps_if (pt_cmpR op_eq (pv 1) pe_str (nomark _))
      (pss_cons (ps_if (pt_val (pc (c_is_word T) hr (pa_cons (pv 0) pa_nil)))
      (pss_one (ps_ret (pv 0)))
      pss_nil)
    (pss_one (ps_ret pe_non)))
      pss_nil)
    (pss_cons (ps_set (i := 2) sc_item_of.nd rfl (Or.inl rfl) (pc (c_number_of T) hr (pa_cons (pv 0) pa_nil)))
    (pss_cons (ps_if (PW.pt (pw_or (pt_cmp (pc_isN (pv 2)) rfl) (pw_or1 (PW.pt (pw_and (pt_cmpR op_eq (pv 1) pe_str (nomark _)) (pw_and1 (pt_not (pt_chain op_le op_le pe_int (pv 2) pe_int))))))))
      (pss_one (ps_ret pe_non))
      pss_nil)
    (pss_one (ps_ret (pv 2)))))), ?_⟩
  refine ⟨_, rfl, rfl, _, rfl, ?_⟩
  rw [str_k, sgn]
  by_cases ck : c = 107
  · rw [if_pos ck] at q
    rw [decide_eq_true ck]
    refine iteT ?_
    refine ⟨_, rfl, z, rfl, Nat.le_of_lt (small1000 hz), _, rfl, ?_⟩
    by_cases hw : isWord z = true
    · rw [if_pos hw] at q
      exact ifT hw ⟨_, rfl, q⟩
    · rw [if_neg hw] at q
      exact ifF (by simpa using hw) q
  · rw [if_neg ck] at q
    rw [decide_eq_false ck]
    refine iteF ?_
    refine ⟨_, rfl, z, rfl, hz, ?_⟩
    refine ⟨_, rfl, ?_⟩
    cases hn : numOf z with
    | none =>
      rw [hn] at q
      dsimp only at q
      exact ⟨true, rfl, ifT rfl (ifT rfl q)⟩
    | some n =>
      rw [hn] at q
      dsimp only at q
      refine ⟨false, rfl, ifF rfl ?_⟩
      refine ⟨_, rfl, rfl, _, rfl, ?_⟩
      rw [str_t, sgn]
      by_cases ct : c = 116
      · rw [decide_eq_true ct]
        refine iteT ?_
        refine ⟨_, rfl, _, _, rfl, rfl, _, rfl, ?_⟩
        by_cases n0 : 0 ≤ n
        · rw [decide_eq_true n0]
          refine iteT ⟨_, _, rfl, rfl, _, rfl, ?_⟩
          by_cases n3 : n ≤ 3
          · rw [decide_eq_true n3]
            rw [if_neg fun h => h.2 ⟨n0, n3⟩] at q
            exact iteF ⟨_, rfl, q⟩
          · rw [decide_eq_false n3]
            rw [if_pos ⟨ct, fun h => n3 h.2⟩] at q
            exact iteT q
        · rw [decide_eq_false n0]
          rw [if_pos ⟨ct, fun h => n0 h.1⟩] at q
          exact iteF ⟨_, rfl, iteT q⟩
      · rw [decide_eq_false ct]
        rw [if_neg fun h => ct h.1] at q
        exact iteF (iteF ⟨_, rfl, q⟩)
end
end RM

set_option Elab.async false
set_option linter.all false
set_option maxRecDepth 100000
set_option maxHeartbeats 2000000
namespace RM
open PySem PySem.Spec PyProof.Rows L2
/-! ### numbers back -/
def backChk (l : List Nat) : Bool := (match numOf ⟨l.toArray⟩ with | some n => decide (numT n = ⟨l.toArray⟩) | none => true) && (match numOf ⟨(45 :: l).toArray⟩ with | some n => decide (numT n = ⟨(45 :: l).toArray⟩) | none => true)
theorem back_all : figL.all backChk = true := by decide +kernel
theorem num_line {z : Str} {n : Int} (h : numOf z = some n) : numT n = z := by
  have h' := h
  unfold numOf at h'
  split at h'
  · cases h'
  rename_i c
  simp only [not_or, Bool.not_eq_false] at c
  have k := List.all_eq_true.mp back_all _ (fig_mem c.1 c.2.1 c.2.2.2)
  unfold backChk at k
  rw [Bool.and_eq_true] at k
  have e : z = ⟨(figs z).toArray⟩ ∨ z = ⟨(45 :: figs z).toArray⟩ := by
    unfold figs
    split
    · rename_i t
      refine .inr (str_ext ?_)
      show cl z = 45 :: (cl z).drop 1
      rw [← List.take_append_drop 1 (cl z), t]
      rfl
    · exact .inl (str_ext rfl)
  rcases e with e | e
  · have k1 := k.1
    rw [← e, h] at k1
    exact of_decide_eq_true k1
  · have k1 := k.2
    rw [← e, h] at k1
    exact of_decide_eq_true k1
theorem split_ne (z : Str) : Txt.split z " " ≠ [] := fun h => by
  have := PyProof.Rows.split_pos z " "
  rw [h] at this
  exact absurd this (by decide)
theorem joinL_part (S : List Nat) : ∀ (ps : List (List Nat)) (p : List Nat), p ∈ ps → p.length ≤ (TL.joinL S ps).length ∧ ∀ c ∈ p, c ∈ TL.joinL S ps
  | [], p, h => by simp at h
  | [a], p, h => by rw [List.mem_singleton] at h; subst h; exact ⟨Nat.le_refl _, fun c hc => hc⟩
  | a :: b :: r, p, h => by
    show p.length ≤ (a ++ (S ++ TL.joinL S (b :: r))).length ∧ ∀ c ∈ p, c ∈ a ++ (S ++ TL.joinL S (b :: r))
    rw [List.length_append, List.length_append]
    rcases List.mem_cons.mp h with rfl | h
    · exact ⟨by omega, fun c hc => List.mem_append_left _ hc⟩
    · obtain ⟨l, m⟩ := joinL_part S (b :: r) p h
      exact ⟨by omega, fun c hc => List.mem_append_right _ (List.mem_append_right _ (m c hc))⟩
theorem split_part {z y w : Str} (h : w ∈ Txt.split z y) : w.length ≤ z.length ∧ ∀ c ∈ cl w, c ∈ cl z := by
  have j : cl z = TL.joinL (TL.tl y) ((Txt.split z y).map TL.tl) := by
    rw [← TL.tl_join, PySem.StrLaws.join_split]
  obtain ⟨a, b⟩ := joinL_part (TL.tl y) _ (TL.tl w) (List.mem_map.mpr ⟨w, h, rfl⟩)
  rw [← j] at a b
  rw [← cl_len, ← cl_len]
  exact ⟨a, b⟩
theorem blank_one' : TL.tl (" " : Str) = [32] := by decide +kernel
end RM

set_option Elab.async false
set_option linter.all false
set_option maxRecDepth 100000
set_option maxHeartbeats 2000000
namespace RM
open PySem PySem.Spec PyProof.Rows L2
/-! ### heads of statements, read from any line -/
def vD : PyData → V
  | .str z => .str z
  | .int n => .int n
  | _ => .non
def temp (w : Str) : Option Stm :=
  if w = "read" then some (.read "" "") else if w = "set" then some (.set "" 0) else if w = "copy" then some (.copy "" "") else if w = "print" then some (.print "") else
  if w = "say" then some (.say 0) else if w = "wait" then some .wait else if w = "if" then some (.ite "" 0 [] []) else if w = "same" then some (.same "" "" [] []) else
  if w = "repeat" then some (.rep 0 []) else if w = "stop" then some .stop else none
def fillS : Stm → List V → Stm
  | .read .., [.str a, .str b] => .read a b
  | .set .., [.str a, .int n] => .set a n
  | .copy .., [.str a, .str b] => .copy a b
  | .print _, [.str a] => .print a
  | .say _, [.int n] => .say n
  | .ite .., [.str a, .int n] => .ite a n [] []
  | .same .., [.str a, .str b] => .same a b [] []
  | .rep .., [.int n] => .rep n []
  | s, _ => s
/-- the signs of the items that are no bodies -/
def Stm.sg (s : Stm) : List Nat := s.signs.take s.flats.length
def itemsV (t : Stm) (ws : List Str) : List V := List.zipWith itemOf ws t.sg
def headW : List Str → Option Stm
  | [] => none
  | w :: ws => (temp w).bind fun t => if ws.length = t.flats.length then (if (itemsV t ws).any (fun v => decide (v = V.non)) = true then none else some (fillS t (itemsV t ws))) else none
def headS (i : Nat) (z : Str) : Option Stm := if cutS z none (some (i : Int)) = spc i then headW (Txt.split (cutS z (some (i : Int)) none) " ") else none
theorem temp_word {w : Str} {t : Stm} (h : temp w = some t) : t.word = w ∧ t.bodies = t.bodies.map fun _ => [] := by
  unfold temp at h
  repeat (split at h; (rename_i e; cases h; rw [e]; exact ⟨rfl, rfl⟩))
  cases h
theorem temp_none {w : Str} (h : temp w = none) : w ∉ (["read", "set", "copy", "print", "say", "wait", "if", "same", "repeat", "stop"] : List Str) := by
  unfold temp at h
  repeat (split at h; cases h)
  simp only [List.mem_cons, List.not_mem_nil, or_false, not_or]
  exact ⟨by assumption, by assumption, by assumption, by assumption, by assumption, by assumption, by assumption, by assumption, by assumption, by assumption⟩
theorem temp_shape {w : Str} {t : Stm} (h : temp w = some t) : t = .read "" "" ∨ t = .set "" 0 ∨ t = .copy "" "" ∨ t = .print "" ∨ t = .say 0 ∨ t = .wait ∨ t = .ite "" 0 [] [] ∨ t = .same "" "" [] [] ∨ t = .rep 0 [] ∨ t = .stop := by
  unfold temp at h
  repeat (split at h; (cases h; simp))
  cases h
theorem item107 {z : Str} (h : itemOf z 107 ≠ .non) : itemOf z 107 = .str z ∧ isWord z = true := by
  unfold itemOf at h ⊢
  rw [if_pos rfl] at h ⊢
  by_cases c : isWord z = true
  · rw [if_pos c]; exact ⟨rfl, c⟩
  · rw [if_neg c] at h; exact absurd rfl h
theorem item118 {z : Str} (h : itemOf z 118 ≠ .non) : ∃ n, itemOf z 118 = .int n ∧ numT n = z ∧ isValue n = true := by
  unfold itemOf at h ⊢
  rw [if_neg (by decide)] at h ⊢
  cases e : numOf z with
  | none => rw [e] at h; exact absurd rfl h
  | some n =>
    refine ⟨n, ?_, num_line e, numOf_val e⟩
    dsimp only
    rw [if_neg fun c => absurd c.1 (by decide)]
theorem item116 {z : Str} (h : itemOf z 116 ≠ .non) : ∃ n, itemOf z 116 = .int n ∧ numT n = z ∧ 0 ≤ n ∧ n ≤ 3 := by
  unfold itemOf at h ⊢
  rw [if_neg (by decide)] at h ⊢
  cases e : numOf z with
  | none => rw [e] at h; exact absurd rfl h
  | some n =>
    rw [e] at h
    dsimp only at h ⊢
    by_cases c : 0 ≤ n ∧ n ≤ 3
    · rw [if_neg fun k => k.2 c]
      exact ⟨n, rfl, num_line e, c⟩
    · rw [if_pos ⟨rfl, c⟩] at h
      exact absurd rfl h
/-- what a head's words tell -/
theorem head_words {w : Str} {ws : List Str} {s : Stm} (h : headW (w :: ws) = some s) : ∃ t, temp w = some t ∧ s.word = w ∧ s.toks = w :: ws ∧ wl s = true ∧ s.flats.map vD = itemsV t ws ∧ s.bodies = s.bodies.map (fun _ => []) ∧ s.flats.length = t.flats.length ∧ s.form = t.form ∧ s.bodies.length = t.bodies.length := by
  unfold headW at h
  obtain ⟨t, ht, h⟩ := Option.bind_eq_some_iff.mp h
  refine ⟨t, ht, ?_⟩
  have tw := (temp_word ht).1
  split at h
  case isFalse => cases h
  rename_i hl
  split at h
  case isTrue => cases h
  rename_i hn
  cases h
  have nn : ∀ v ∈ itemsV t ws, v ≠ V.non := fun v hv e => hn (List.any_eq_true.mpr ⟨v, hv, by rw [e]; exact decide_eq_true rfl⟩)
  clear hn
  rcases temp_shape ht with rfl | rfl | rfl | rfl | rfl | rfl | rfl | rfl | rfl | rfl <;> cases tw
  · match ws, hl with
    | [a, b], _ =>
      obtain ⟨ea, ha⟩ := item107 (nn (itemOf a 107) (by simp [itemsV, Stm.sg, Stm.signs, Stm.flats]))
      obtain ⟨eb, hb⟩ := item107 (nn (itemOf b 107) (by simp [itemsV, Stm.sg, Stm.signs, Stm.flats]))
      have ei : itemsV (.read "" "") [a, b] = [.str a, .str b] := by simp [itemsV, Stm.sg, Stm.signs, Stm.flats, ea, eb]
      rw [ei]
      refine ⟨rfl, ?_, ?_, rfl, rfl, rfl, rfl, rfl⟩
      · simp [fillS, Stm.toks, Stm.word, Stm.flats, tokD]
      · simp [fillS, wl, ha, hb]
  · match ws, hl with
    | [a, b], _ =>
      obtain ⟨ea, ha⟩ := item107 (nn (itemOf a 107) (by simp [itemsV, Stm.sg, Stm.signs, Stm.flats]))
      obtain ⟨nb, eb, bb, hb⟩ := item118 (nn (itemOf b 118) (by simp [itemsV, Stm.sg, Stm.signs, Stm.flats]))
      have ei : itemsV (.set "" 0) [a, b] = [.str a, .int nb] := by simp [itemsV, Stm.sg, Stm.signs, Stm.flats, ea, eb]
      rw [ei]
      refine ⟨rfl, ?_, ?_, rfl, rfl, rfl, rfl, rfl⟩
      · simp [fillS, Stm.toks, Stm.word, Stm.flats, tokD, bb]
      · simp [fillS, wl, ha, hb]
  · match ws, hl with
    | [a, b], _ =>
      obtain ⟨ea, ha⟩ := item107 (nn (itemOf a 107) (by simp [itemsV, Stm.sg, Stm.signs, Stm.flats]))
      obtain ⟨eb, hb⟩ := item107 (nn (itemOf b 107) (by simp [itemsV, Stm.sg, Stm.signs, Stm.flats]))
      have ei : itemsV (.copy "" "") [a, b] = [.str a, .str b] := by simp [itemsV, Stm.sg, Stm.signs, Stm.flats, ea, eb]
      rw [ei]
      refine ⟨rfl, ?_, ?_, rfl, rfl, rfl, rfl, rfl⟩
      · simp [fillS, Stm.toks, Stm.word, Stm.flats, tokD]
      · simp [fillS, wl, ha, hb]
  · match ws, hl with
    | [a], _ =>
      obtain ⟨ea, ha⟩ := item107 (nn (itemOf a 107) (by simp [itemsV, Stm.sg, Stm.signs, Stm.flats]))
      have ei : itemsV (.print "") [a] = [.str a] := by simp [itemsV, Stm.sg, Stm.signs, Stm.flats, ea]
      rw [ei]
      refine ⟨rfl, ?_, ?_, rfl, rfl, rfl, rfl, rfl⟩
      · simp [fillS, Stm.toks, Stm.word, Stm.flats, tokD]
      · simp [fillS, wl, ha]
  · match ws, hl with
    | [a], _ =>
      obtain ⟨na, ea, ba, ha⟩ := item118 (nn (itemOf a 118) (by simp [itemsV, Stm.sg, Stm.signs, Stm.flats]))
      have ei : itemsV (.say 0) [a] = [.int na] := by simp [itemsV, Stm.sg, Stm.signs, Stm.flats, ea]
      rw [ei]
      refine ⟨rfl, ?_, ?_, rfl, rfl, rfl, rfl, rfl⟩
      · simp [fillS, Stm.toks, Stm.word, Stm.flats, tokD, ba]
      · simp [fillS, wl, ha]
  · match ws, hl with
    | [], _ =>
      have ei : itemsV (.wait) [] = [] := by simp [itemsV, Stm.sg, Stm.signs, Stm.flats]
      rw [ei]
      refine ⟨rfl, ?_, ?_, rfl, rfl, rfl, rfl, rfl⟩
      · simp [fillS, Stm.toks, Stm.word, Stm.flats, tokD]
      · simp [fillS, wl]
  · match ws, hl with
    | [a, b], _ =>
      obtain ⟨ea, ha⟩ := item107 (nn (itemOf a 107) (by simp [itemsV, Stm.sg, Stm.signs, Stm.flats]))
      obtain ⟨nb, eb, bb, hb⟩ := item118 (nn (itemOf b 118) (by simp [itemsV, Stm.sg, Stm.signs, Stm.flats]))
      have ei : itemsV (.ite "" 0 [] []) [a, b] = [.str a, .int nb] := by simp [itemsV, Stm.sg, Stm.signs, Stm.flats, ea, eb]
      rw [ei]
      refine ⟨rfl, ?_, ?_, rfl, rfl, rfl, rfl, rfl⟩
      · simp [fillS, Stm.toks, Stm.word, Stm.flats, tokD, bb]
      · simp [fillS, wl, ha, hb]
  · match ws, hl with
    | [a, b], _ =>
      obtain ⟨ea, ha⟩ := item107 (nn (itemOf a 107) (by simp [itemsV, Stm.sg, Stm.signs, Stm.flats]))
      obtain ⟨eb, hb⟩ := item107 (nn (itemOf b 107) (by simp [itemsV, Stm.sg, Stm.signs, Stm.flats]))
      have ei : itemsV (.same "" "" [] []) [a, b] = [.str a, .str b] := by simp [itemsV, Stm.sg, Stm.signs, Stm.flats, ea, eb]
      rw [ei]
      refine ⟨rfl, ?_, ?_, rfl, rfl, rfl, rfl, rfl⟩
      · simp [fillS, Stm.toks, Stm.word, Stm.flats, tokD]
      · simp [fillS, wl, ha, hb]
  · match ws, hl with
    | [a], _ =>
      obtain ⟨na, ea, ba, ha⟩ := item116 (nn (itemOf a 116) (by simp [itemsV, Stm.sg, Stm.signs, Stm.flats]))
      have ei : itemsV (.rep 0 []) [a] = [.int na] := by simp [itemsV, Stm.sg, Stm.signs, Stm.flats, ea]
      rw [ei]
      refine ⟨rfl, ?_, ?_, rfl, rfl, rfl, rfl, rfl⟩
      · simp [fillS, Stm.toks, Stm.word, Stm.flats, tokD, ba]
      · simp [fillS, wl, ha]
  · match ws, hl with
    | [], _ =>
      have ei : itemsV (.stop) [] = [] := by simp [itemsV, Stm.sg, Stm.signs, Stm.flats]
      rw [ei]
      refine ⟨rfl, ?_, ?_, rfl, rfl, rfl, rfl, rfl⟩
      · simp [fillS, Stm.toks, Stm.word, Stm.flats, tokD]
      · simp [fillS, wl]
end RM

set_option Elab.async false
set_option linter.all false
set_option maxRecDepth 100000
set_option maxHeartbeats 2000000
namespace RM
open PySem PySem.Spec PyProof.Rows L2
/-! ### the body that begins at a line -/
def Stm.put : Stm → List (List Stm) → Stm
  | .ite v n _ _, [a, b] => .ite v n a b
  | .same v u _ _, [a, b] => .same v u a b
  | .rep n _, [a] => .rep n a
  | s, _ => s
def inB (i : Nat) (z : Str) : Bool := decide (cutS z none (some (i : Int)) = spc i) && decide (z ≠ elseL i)
def partsW (rec : Nat → List Str → Option (List Stm) × List Str) (i : Nat) (s : Stm) (r : List Str) : Option Stm × List Str :=
  match s.bodies.length with
  | 0 => (some s, r)
  | 1 => match rec (i + 2) r with
    | (none, e) => (none, e)
    | (some a, e) => (some (s.put [a]), e)
  | _ => match rec (i + 2) r with
    | (none, e) => (none, e)
    | (some _, []) => (none, [])
    | (some a, z :: e) => if z = elseL i then (match rec (i + 2) e with
      | (none, e2) => (none, e2)
      | (some b, e2) => (some (s.put [a, b]), e2)) else (none, z :: e)
def bodyR : Nat → Nat → List Str → Option (List Stm) × List Str
  | 0, _, ls => (none, ls)
  | _ + 1, _, [] => (some [], [])
  | f + 1, i, z :: r => if inB i z = true then (match headS i z with
      | none => (none, z :: r)
      | some s => match partsW (bodyR f) i s r with
        | (none, e) => (none, e)
        | (some s2, r2) => match bodyR f i r2 with
          | (none, e) => (none, e)
          | (some b, e) => (some (s2 :: b), e)) else (some [], z :: r)
theorem parts_len {rec : Nat → List Str → Option (List Stm) × List Str} (h : ∀ i ls, (rec i ls).2.length ≤ ls.length) (i : Nat) (s : Stm) (r : List Str) : (partsW rec i s r).2.length ≤ r.length := by
  unfold partsW
  split
  · exact Nat.le_refl _
  · have h1 := h (i + 2) r
    split <;> (rename_i e; rw [e] at h1; exact h1)
  · have h1 := h (i + 2) r
    split
    · rename_i e; rw [e] at h1; exact h1
    · exact Nat.zero_le _
    · rename_i a z e q
      rw [q] at h1
      split
      · have h2 := h (i + 2) e
        rw [List.length_cons] at h1
        split <;> (rename_i q2; rw [q2] at h2; dsimp only at h2 ⊢; omega)
      · exact h1
theorem body_len : ∀ (f i : Nat) (ls : List Str), (bodyR f i ls).2.length ≤ ls.length
  | 0, _, _ => Nat.le_refl _
  | _ + 1, _, [] => Nat.le_refl _
  | f + 1, i, z :: r => by
    unfold bodyR
    split
    · split
      · exact Nat.le_refl _
      · rename_i s _
        have h1 := parts_len (body_len f) i s r
        split
        · rename_i e q; rw [q] at h1; rw [List.length_cons]; dsimp only at h1 ⊢; omega
        · rename_i s2 r2 q
          rw [q] at h1
          have h2 := body_len f i r2
          split <;> (rename_i q2; rw [q2] at h2; rw [List.length_cons]; dsimp only at h1 h2 ⊢; omega)
    · exact Nat.le_refl _
theorem parts_congr {r1 r2 : Nat → List Str → Option (List Stm) × List Str} {i : Nat} {s : Stm} {r : List Str} (h : ∀ j ls, ls.length ≤ r.length → r1 j ls = r2 j ls) (hl : ∀ i ls, (r2 i ls).2.length ≤ ls.length) : partsW r1 i s r = partsW r2 i s r := by
  unfold partsW
  rw [h _ _ (Nat.le_refl _)]
  split
  · rfl
  · rfl
  · have h1 := hl (i + 2) r
    split
    · rfl
    · rfl
    · rename_i a z e q
      rw [q, List.length_cons] at h1
      rw [h (i + 2) e (by omega)]
theorem body_fuel : ∀ (f g i : Nat) (ls : List Str), ls.length < f → ls.length < g → bodyR f i ls = bodyR g i ls
  | 0, _, _, _, h, _ => absurd h (Nat.not_lt_zero _)
  | _ + 1, 0, _, _, _, h => absurd h (Nat.not_lt_zero _)
  | _ + 1, _ + 1, _, [], _, _ => rfl
  | f + 1, g + 1, i, z :: r, hf, hg => by
    rw [List.length_cons] at hf hg
    have e : ∀ s, partsW (bodyR f) i s r = partsW (bodyR g) i s r := fun s => parts_congr (fun j ls h => body_fuel f g j ls (by omega) (by omega)) (body_len g)
    unfold bodyR
    split
    · split
      · rfl
      · rename_i s _
        rw [e s]
        have h1 := parts_len (body_len g) i s r
        split
        · rfl
        · rename_i s2 r2 q
          rw [q] at h1
          dsimp only at h1
          rw [body_fuel f g i r2 (by omega) (by omega)]
    · rfl
def BR (i : Nat) (ls : List Str) : Option (List Stm) × List Str := bodyR (ls.length + 1) i ls
theorem BR_len (i : Nat) (ls : List Str) : (BR i ls).2.length ≤ ls.length := body_len _ _ _
theorem BR_nil (i : Nat) : BR i [] = (some [], []) := rfl
theorem BR_out {i : Nat} {z : Str} {r : List Str} (h : inB i z = false) : BR i (z :: r) = (some [], z :: r) := by
  unfold BR
  rw [List.length_cons, bodyR, h, if_neg Bool.false_ne_true]
theorem BR_bad {i : Nat} {z : Str} {r : List Str} (h : inB i z = true) (hs : headS i z = none) : BR i (z :: r) = (none, z :: r) := by
  unfold BR
  rw [List.length_cons, bodyR, h, if_pos rfl, hs]
theorem body_succ (f i : Nat) (z : Str) (r : List Str) : bodyR (f + 1) i (z :: r) = if inB i z = true then (match headS i z with
      | none => (none, z :: r)
      | some s => match partsW (bodyR f) i s r with
        | (none, e) => (none, e)
        | (some s2, r2) => match bodyR f i r2 with
          | (none, e) => (none, e)
          | (some b, e) => (some (s2 :: b), e)) else (some [], z :: r) := by rw [bodyR]
theorem BR_in {i : Nat} {z : Str} {r : List Str} {s : Stm} (h : inB i z = true) (hs : headS i z = some s) : BR i (z :: r) = (match partsW BR i s r with
    | (none, e) => (none, e)
    | (some s2, r2) => match BR i r2 with
      | (none, e) => (none, e)
      | (some b, e) => (some (s2 :: b), e)) := by
  have e : partsW (bodyR (r.length + 1)) i s r = partsW BR i s r := parts_congr (fun j ls hl => body_fuel _ _ _ _ (by omega) (by omega)) BR_len
  have h1 := parts_len BR_len i s r
  have h0 : BR i (z :: r) = bodyR (r.length + 1 + 1) i (z :: r) := rfl
  rw [h0, body_succ, h, if_pos rfl, hs]
  dsimp only
  rw [e]
  cases q : partsW BR i s r with
  | mk o r2 =>
    cases o with
    | none => rfl
    | some s2 =>
      rw [q] at h1
      dsimp only at h1 ⊢
      rw [show bodyR (r.length + 1) i r2 = BR i r2 from body_fuel _ _ _ _ (by omega) (by omega)]
/-! ### back: the lines are those of what was read -/
theorem put_toks {s : Stm} {bs : List (List Stm)} : (s.put bs).toks = s.toks := by
  cases s <;> (unfold Stm.put; split <;> first | rfl | (rename_i h; cases h <;> rfl))
theorem put_bodies {s : Stm} {bs : List (List Stm)} (h : bs.length = s.bodies.length) : (s.put bs).bodies = bs := by
  cases s <;> simp only [Stm.bodies, List.length_cons, List.length_nil] at h
  case ite v n a b => match bs, h with | [x, y], _ => rfl
  case same v n a b => match bs, h with | [x, y], _ => rfl
  case rep n a => match bs, h with | [x], _ => rfl
  all_goals (match bs, h with | [], _ => rfl)
theorem put_ok {s : Stm} {bs : List (List Stm)} (h : bs.length = s.bodies.length) (hw : wl s = true) (hb : ∀ b ∈ bs, wB b = true) : wS (s.put bs) = true := by
  cases s <;> simp only [Stm.bodies, List.length_cons, List.length_nil] at h
  case ite v n a b => match bs, h with | [x, y], _ => (simp only [wl] at hw; simp only [Stm.put, wS, hw, hb x (by simp), hb y (by simp), Bool.and_self])
  case same v n a b => match bs, h with | [x, y], _ => (simp only [wl] at hw; simp only [Stm.put, wS, hw, hb x (by simp), hb y (by simp), Bool.and_self])
  case rep n a => match bs, h with | [x], _ => (simp only [wl] at hw; simp only [Stm.put, wS, hw, hb x (by simp), Bool.and_self])
  all_goals (match bs, h with | [], _ => (simp only [wl] at hw; simp only [Stm.put, wS, hw]))
theorem head_line' {i : Nat} {z : Str} {s : Stm} (h : headS i z = some s) : z = line i s.toks ∧ wl s = true ∧ s.bodies = s.bodies.map (fun _ => []) := by
  unfold headS at h
  split at h
  case isFalse => cases h
  rename_i hp
  cases hw : Txt.split (cutS z (some (i : Int)) none) " " with
  | nil => exact absurd hw (split_ne _)
  | cons w ws =>
    rw [hw] at h
    obtain ⟨t, _, _, h2, h3, _, h5, _⟩ := head_words h
    refine ⟨?_, h3, h5⟩
    unfold line
    rw [h2, ← hw, show Txt.join " " (Txt.split (cutS z (some (i : Int)) none) " ") = cutS z (some (i : Int)) none from by rw [TL.join_eq]; exact PySem.StrLaws.join_split _ " "]
    refine str_ext ?_
    have e1 := cut_pre z i
    have e2 := cut_suf z i
    rw [hp] at e1
    show cl z = cl (spc i ++ cutS z (some (i : Int)) none)
    rw [cl_app, e1, e2, List.take_append_drop]
theorem parts_back {rec : Nat → List Str → Option (List Stm) × List Str} (h : ∀ i ls l e, rec i ls = (some l, e) → ls = lnB i l ++ e ∧ wB l = true) {i : Nat} {s s2 : Stm} {r r2 : List Str} (hw : wl s = true) (q : partsW rec i s r = (some s2, r2)) :
    s2.toks = s.toks ∧ wS s2 = true ∧ r = lnR i s2.bodies ++ r2 := by
  unfold partsW at q
  split at q
  · rename_i hb
    cases q
    have b0 : s.bodies = [] := List.length_eq_zero_iff.mp hb
    refine ⟨rfl, ?_, by rw [b0]; rfl⟩
    have := put_ok (s := s) (bs := []) hb.symm hw (by simp)
    have e : s.put [] = s := by cases s <;> rfl
    rwa [e] at this
  · rename_i hb
    split at q
    · cases q
    · rename_i a e qa
      cases q
      obtain ⟨h1, h2⟩ := h _ _ _ _ qa
      refine ⟨put_toks, put_ok (by rw [hb]; rfl) hw (by simpa using h2), ?_⟩
      rw [put_bodies (by rw [hb]; rfl), lnR]
      exact h1
  · rename_i n0 n1
    have hb : s.bodies.length = 2 := by
      rcases bodies_cases s with e | ⟨_, e⟩ | ⟨_, _, e⟩
      · rw [e] at n0; exact absurd rfl n0
      · rw [e] at n1; exact absurd rfl n1
      · rw [e]; rfl
    split at q
    · cases q
    · cases q
    · rename_i a z e qa
      split at q
      · rename_i ez
        split at q
        · cases q
        · rename_i b e2 qb
          cases q
          obtain ⟨h1, h2⟩ := h _ _ _ _ qa
          obtain ⟨h3, h4⟩ := h _ _ _ _ qb
          refine ⟨put_toks, put_ok (by rw [hb]; rfl) hw (by simp [h2, h4]), ?_⟩
          rw [put_bodies (by rw [hb]; rfl), lnR, h1, ez, h3]
          simp
      · cases q
theorem body_back : ∀ (f i : Nat) (ls : List Str) (l : List Stm) (e : List Str), bodyR f i ls = (some l, e) → ls = lnB i l ++ e ∧ wB l = true
  | 0, _, _, _, _, h => by cases h
  | _ + 1, _, [], _, _, h => by cases h; exact ⟨rfl, rfl⟩
  | f + 1, i, z :: r, l, e, h => by
    unfold bodyR at h
    split at h
    · split at h
      · cases h
      · rename_i s hs
        obtain ⟨h1, h2, _⟩ := head_line' hs
        split at h
        · cases h
        · rename_i s2 r2 q
          obtain ⟨p1, p2, p3⟩ := parts_back (body_back f) h2 q
          split at h
          · cases h
          · rename_i b e2 q2
            cases h
            obtain ⟨b1, b2⟩ := body_back f _ _ _ _ q2
            refine ⟨?_, by rw [wB, p2, b2]; rfl⟩
            rw [lnB, lnS_eq, p1, h1, p3, b1]
            simp
    · cases h
      exact ⟨rfl, rfl⟩
theorem BR_back {i : Nat} {ls e : List Str} {l : List Stm} (h : BR i ls = (some l, e)) : ls = lnB i l ++ e ∧ wB l = true := body_back _ _ _ _ _ h
mutual
theorem lnS_deep (i : Nat) : ∀ s : Stm, dS s ≤ (lnS i s).length
  | .ite v n a b => by
    have h1 := lnB_deep (i + 2) a
    have h2 := lnB_deep (i + 2) b
    simp only [dS, lnS, List.length_cons, List.length_append]
    omega
  | .same v n a b => by
    have h1 := lnB_deep (i + 2) a
    have h2 := lnB_deep (i + 2) b
    simp only [dS, lnS, List.length_cons, List.length_append]
    omega
  | .rep n a => by
    have h1 := lnB_deep (i + 2) a
    simp only [dS, lnS, List.length_cons]
    omega
  | .read .. => Nat.zero_le _
  | .set .. => Nat.zero_le _
  | .copy .. => Nat.zero_le _
  | .print .. => Nat.zero_le _
  | .say .. => Nat.zero_le _
  | .wait => Nat.zero_le _
  | .stop => Nat.zero_le _
theorem lnB_deep (i : Nat) : ∀ l : List Stm, dB l ≤ (lnB i l).length + 1
  | [] => by simp [dB]
  | s :: r => by
    have h1 := lnS_deep i s
    have h2 := lnB_deep i r
    have h3 := lnS_pos i s
    simp only [dB, lnB, List.length_append]
    omega
theorem lnS_pos (i : Nat) (s : Stm) : 1 ≤ (lnS i s).length := by rw [lnS_eq]; simp
end
mutual
theorem lnS_count (i : Nat) : ∀ s : Stm, cS s ≤ (lnS i s).length
  | .ite v n a b => by
    have h1 := lnB_count (i + 2) a
    have h2 := lnB_count (i + 2) b
    simp only [cS, lnS, List.length_cons, List.length_append]
    omega
  | .same v n a b => by
    have h1 := lnB_count (i + 2) a
    have h2 := lnB_count (i + 2) b
    simp only [cS, lnS, List.length_cons, List.length_append]
    omega
  | .rep n a => by
    have h1 := lnB_count (i + 2) a
    simp only [cS, lnS, List.length_cons]
    omega
  | .read .. => Nat.le_refl _
  | .set .. => Nat.le_refl _
  | .copy .. => Nat.le_refl _
  | .print .. => Nat.le_refl _
  | .say .. => Nat.le_refl _
  | .wait => Nat.le_refl _
  | .stop => Nat.le_refl _
theorem lnB_count (i : Nat) : ∀ l : List Stm, cB l ≤ (lnB i l).length
  | [] => Nat.le_refl _
  | s :: r => by
    have h1 := lnS_count i s
    have h2 := lnB_count i r
    simp only [cB, lnB, List.length_append]
    omega
end
end RM

set_option Elab.async false
set_option linter.all false
set_option maxRecDepth 100000
set_option maxHeartbeats 4000000
set_option pp.maxSteps 600
set_option pp.deepTerms false
namespace RM
open PySem PySem.Spec PyProof.Rows L2
/-! ### numbers of three figures and more -/
theorem fold_ge : ∀ (r : List Nat) (a : Nat), a ≤ r.foldl (fun acc c => acc * 10 + (c - 48)) a
  | [], a => Nat.le_refl a
  | c :: r, a => Nat.le_trans (by omega) (fold_ge r (a * 10 + (c - 48)))
theorem val_long {l : List Nat} (h3 : 2 < l.length) (h0 : l[0]? ≠ some 48) (h : NumText.AllDigits l) : 100 ≤ NumText.digitsVal l := by
  match l, h3 with
  | a :: b :: c :: r, _ =>
    have ha := h a List.mem_cons_self
    have a48 : a ≠ 48 := fun e => h0 (by rw [e]; rfl)
    show 100 ≤ (a :: b :: c :: r).foldl (fun acc c => acc * 10 + (c - 48)) 0
    rw [List.foldl_cons, List.foldl_cons, List.foldl_cons]
    refine Nat.le_trans ?_ (fold_ge r _)
    omega
theorem digs_all {l : List Nat} (h : l.all isDig = true) : NumText.AllDigits l := fun c hc => by
  obtain ⟨a, ha, rfl⟩ := dig_lt (List.all_eq_true.mp h c hc)
  omega
theorem num_long {z : Str} (h3 : 2 < (figs z).length) (h9 : (figs z).length ≤ 9) (h : (figs z).all isDig = true) (h0 : (figs z)[0]? ≠ some 48) : ∃ n, PySem.intText? z = some n ∧ (n ≤ -100 ∨ 100 ≤ n) := by
  have v := val_long h3 h0 (digs_all h)
  have ne : figs z ≠ [] := fun e => by rw [e] at h3; simp at h3
  have lz : z.length ≤ 10 := by have := figs_more z; omega
  by_cases c : (cl z).take 1 = [45]
  · have e : cl z = 45 :: figs z := by
      unfold figs
      rw [if_pos c]
      conv => lhs; rw [← List.take_append_drop 1 (cl z), c]
      rfl
    exact ⟨_, PySem.intText_neg e (digs_all h) ne (by omega), .inl (by omega)⟩
  · have e : figs z = cl z := by unfold figs; rw [if_neg c]
    rw [e] at v h ne
    exact ⟨_, PySem.intText_digits (digs_all h) ne (by omega), .inr (by show (100 : Int) ≤ ((NumText.digitsVal (cl z) : Nat) : Int); omega)⟩
/-- a word is a number between two others -/
def within (z : Str) (lo hi : Int) : Bool := match numOf z with
  | none => false
  | some n => decide (lo ≤ n) && decide (n ≤ hi)
theorem within_no {z : Str} {lo hi : Int} (h : numOf z = none) : within z lo hi = false := by unfold within; rw [h]
theorem any_out' (l : List Nat) (p : Nat → Bool) : (l.map fun c => !p c).any id = !l.all p := by
  induction l with
  | nil => rfl
  | cons c r ih =>
    rw [List.map_cons, List.any_cons, List.all_cons, ih]
    cases p c <;> cases r.all p <;> rfl
section
variable {P : Program} {w : World} {K : PySem.W.Frag} {mg : Str → Option Value} {base : Heap}
def spNumG : Sp := fun vs H Q _ => match vs with
  | [x, y, u] => ∃ (z : Str) (lo hi : Int), x = .str z ∧ y = .int lo ∧ u = .int hi ∧ z.length ≤ 1000 ∧ -99 ≤ lo ∧ hi ≤ 99 ∧ ∀ H', Same H H' → Q (.bl (within z lo hi)) H'
  | _ => False
theorem sc_law_number_good : FnScope ["_law_word", "_law_least", "_law_most", "_law_digits", "_law_digit"] ["_law_word", "_law_least", "_law_most"] (defScope s_law_number_good) := ⟨rfl, rfl, rfl, by decide +kernel, rfl, by decide +kernel, by decide +kernel⟩
theorem c_law_number_good (T : Top w K mg) : Cal P w K mg base CX0 1 "_law_number_good" spNumG := by
  refine cal_0 (f_law_number_good T) (g_law_number_good T) sc_law_number_good (fun _ _ _ _ _ _ us hl => match us, hl with | [_, _, _], _ => rfl) (fun vs H Q E h => match vs, h with | [_, _, _], _ => rfl) (fun cdv A outer s H vs Q E hr h => ?_)
  match vs, h with
  | [x, y, u], h =>
  obtain ⟨z, lo, hi, rfl, rfl, rfl, hz, hlo, hhi, q⟩ := h
  have hz' : z.length ≤ sizeLine := Nat.le_of_lt (small1000 hz)
  have no : ∀ {H'}, numOf z = none → Same H H' → Q (.bl false) H' := fun h s => by have := q _ s; rwa [within_no h] at this
  refine ⟨_, (pss_cons (ps_set (i := 3) sc_law_number_good.nd rfl (Or.inl rfl) (pv 0))
    (pss_cons (ps_mid (ps_if (pt_cmpR op_eq (pe_slice sl_str (pv 0) po_none (po_some pe_int)) pe_str (nomark _))
      (pss_one (ps_set (i := 3) sc_law_number_good.nd rfl (Or.inl rfl) (pe_slice sl_str (pv 0) (po_some pe_int) po_none)))
      pss_nil))
    (pss_cons (ps_if (PW.pt (pw_or (pt_cmpR op_lt (pcb (z_len T) call_len_str boot_len (pa_cons (pv 3) pa_nil)) pe_int (nomark _)) (pw_or (pt_cmpR op_gt (pcb (z_len T) call_len_str boot_len (pa_cons (pv 3) pa_nil)) pe_int (nomark _)) (pw_or1 (pt_val (pcb (z_any T) (cr_any rfl) boot_any (pa_cons (pe_lc (own := [("_law_digit", 4)]) rfl sc_law_number_good.nd (pi_str (pv 3)) (blkOk_by (own := [("_law_digit", 4)]) (N := ["_law_word", "_law_least", "_law_most", "_law_digits", "_law_digit"]) (sc := defScope s_law_number_good) (by decide +kernel)) (fun _ _ _ _ _ => (pg_name (i := 4) sc_law_number_good.nd rfl (Or.inl rfl) (Or.inr rfl))) (fun _ _ _ _ _ => pts_nil) (fun _ _ _ _ _ => (pe_cmpR op_notIn_sign (pv 4) pe_str rfl))) pa_nil)))))))
      (pss_one (ps_ret pe_bl))
      pss_nil)
    (pss_cons (ps_if (PW.pt (pw_and (pt_cmpR op_eq (pe_ix ix_str (pv 3) pe_int (fun _ _ => rfl)) pe_str (nomark _)) (pw_and1 (pt_cmpR op_ne (pv 0) pe_str (nomark _)))))
      (pss_one (ps_ret pe_bl))
      pss_nil)
    (pss_one (ps_ret (pe_chain op_le op_le (pv 1) (pct (z_int T) call_int_str boot_int (pa_cons (pv 0) pa_nil)) (pv 2)))))))), ?_⟩
  refine ⟨_, rfl, fun σ H' => H' = H ∧ ∃ F v, σ = [some (.str z), some (.int lo), some (.int hi), some (.str F), v] ∧ cl F = figs z, ?_, ?_⟩
  · refine ⟨_, rfl, _, rfl, z, rfl, hz', rfl, _, rfl, ?_⟩
    refine ifB (fun c => ?_) (fun c => ?_)
    · refine ⟨_, rfl, _, rfl, z, rfl, hz', rfl, _, _, rfl, ?_⟩
      have := (minus_iff z).mp (of_decide_eq_true c)
      rw [show (some (1 : Int)) = some ((1 : Nat) : Int) from rfl, cut_suf]
      unfold figs
      rw [if_pos this]
    · refine ⟨rfl, z, _, rfl, ?_⟩
      have := fun h => of_decide_eq_false c ((minus_iff z).mpr h)
      unfold figs
      rw [if_neg this]
  · rintro σ H' ⟨rfl, F, v, rfl, hF⟩
    have lF : F.length = (figs z).length := by rw [← cl_len, hF]
    have lz := figs_len z
    refine ⟨_, rfl, _, rfl, Nat.le_of_lt (small1000 (by omega)), _, _, rfl, rfl, _, rfl, ?_⟩
    by_cases c1 : (F.length : Int) < 1
    · refine ifT (decide_eq_true c1) ?_
      exact ifT rfl (no (numOf_no (.inl (by omega))) (Same.refl _))
    refine ifF (decide_eq_false c1) ?_
    refine ⟨_, rfl, _, rfl, Nat.le_of_lt (small1000 (by omega)), _, _, rfl, rfl, _, rfl, ?_⟩
    by_cases c9 : (9 : Int) < (F.length : Int)
    · refine ifT (decide_eq_true c9) ?_
      exact ifT rfl (no (numOf_no (.inr (.inl (by omega)))) (Same.refl _))
    refine ifF (decide_eq_false c9) ?_
    -- any sign that is no figure
    refine ⟨_, rfl, F, rfl, fun D nD => ?_⟩
    have lk : (cl F).length = F.length := cl_len F
    refine lc_opt walk_str (fun (v : Bool) y _ => y = .bl v) (fun i => ((cl F)[i]?).map fun c => !isDig c) nD (small1000 (by show F.length ≤ 1000; omega)) (fun _ _ => trivial) (fun _ _ _ _ h _ => h) (fun _ _ _ _ _ h _ => h) ?_ ?_
    · rintro i x H2 H3 N hi e ⟨rfl, c, hc, rfl⟩ hk2 _
      refine ⟨rfl, yesI ⟨_, rfl, c, _, rfl, rfl, hk2 _ _ (!isDig c) ?_ (Same.refl _) rfl⟩⟩
      have hc' : (cl F)[i]? = some c := by simpa using hc
      rw [hc']
      rfl
    intro H2 ys e hD hp'
    rw [show F.cps.size = (cl F).length from lk.symm, map_at] at hp'
    have hys : ys = ((cl F).map fun c => !isDig c).map V.bl := paired_eq hp'
    refine ⟨D, _, rfl, SqL.of (by rw [hD, hys]), _, rfl, ?_⟩
    rw [any_out', hF]
    cases hd : (figs z).all isDig with
    | false => exact ifT rfl (no (numOf_no (.inr (.inr (.inr hd)))) e)
    | true =>
    refine ifF rfl ?_
    obtain ⟨c0, hc0⟩ : ∃ c0, (cl F)[0]? = some c0 := ⟨(cl F)[0]'(by rw [cl_len]; omega), by simp⟩
    have hc1 := hc0
    rw [hF] at hc1
    refine ⟨_, rfl, F, 0, c0, rfl, rfl, Nat.le_of_lt (small1000 (by omega)), atI_nat (j := 0) hc0, rfl, _, rfl, ?_⟩
    have e0 : ("0" : Str) = ⟨#[48]⟩ := by decide +kernel
    rw [e0, sgn]
    -- the number itself
    have fin : ((figs z)[0]? ≠ some 48 ∨ cl z = [48]) → tRet (tChain (rI0 fun i j => V.bl (decide (i ≤ j))) (rI0 fun i j => V.bl (decide (i ≤ j))) (tVar 1)
        (tCB (fun xs H Q => ∃ a n, xs = [V.str a] ∧ PySem.intText? a = some n ∧ a.length ≤ 640 ∧ Q (V.int n) H) (tCons (tVar 0) tNil)) (tVar 2)) { nx := fun x H' => Q V.non H', rt := Q } [some (V.str z), some (V.int lo), some (V.int hi), some (V.str F), v] H2 := by
      intro h0
      have lz10 : z.length ≤ 640 := by have := figs_more z; omega
      obtain ⟨n, hn, hv⟩ : ∃ n, PySem.intText? z = some n ∧ within z lo hi = (decide (lo ≤ n) && decide (n ≤ hi)) := by
        by_cases h3 : 2 < (figs z).length
        · have n48 : (figs z)[0]? ≠ some 48 := by
            rcases h0 with h0 | h0
            · exact h0
            · have : (figs z).length ≤ 1 := by have := figs_len z; rw [← cl_len, h0] at this; exact this
              omega
          obtain ⟨n, hn, hb⟩ := num_long h3 (by omega) hd n48
          refine ⟨n, hn, ?_⟩
          rw [within_no (numOf_no (.inr (.inl h3)))]
          rcases hb with hb | hb
          · rw [decide_eq_false (show ¬ lo ≤ n by omega)]; rfl
          · rw [decide_eq_false (show ¬ n ≤ hi by omega), Bool.and_false]
        · obtain ⟨n, hn, ho⟩ := numOf_yes (z := z) (by
            simp only [not_or, Bool.not_eq_false]
            refine ⟨by omega, h3, fun hh => ?_, hd⟩
            rcases h0 with h0 | h0
            · exact h0 hh.1
            · exact hh.2 h0)
          exact ⟨n, hn, by unfold within; rw [ho]⟩
      have qq := q H2 e
      rw [hv] at qq
      refine ⟨_, rfl, _, rfl, z, n, rfl, hn, lz10, _, _, rfl, rfl, _, rfl, ?_⟩
      by_cases a : lo ≤ n
      · rw [decide_eq_true a] at qq ⊢
        refine ifT rfl ⟨_, rfl, _, _, rfl, rfl, ?_⟩
        exact qq
      · rw [decide_eq_false a] at qq ⊢
        exact ifF rfl qq
    by_cases c3 : c0 = 48
    · subst c3
      refine ifT (decide_eq_true rfl) ?_
      refine ⟨_, rfl, rfl, _, rfl, ?_⟩
      by_cases c4 : cl z = [48]
      · refine ifF (by rw [← e0, decide_eq_true ((zero_iff z).mpr c4)]; rfl) ?_
        exact fin (.inr c4)
      · refine ifT (by rw [← e0, decide_eq_false fun h => c4 ((zero_iff z).mp h)]; rfl) ?_
        exact no (numOf_no (.inr (.inr (.inl ⟨hc1, c4⟩)))) e
    · refine ifF (decide_eq_false c3) ?_
      refine ifF rfl ?_
      exact fin (.inl fun h => c3 (by rw [hc1] at h; exact Option.some.inj h))
end
end RM

set_option Elab.async false
set_option linter.all false
set_option maxRecDepth 100000
set_option maxHeartbeats 4000000
set_option pp.maxSteps 600
set_option pp.deepTerms false
namespace RM
open PySem PySem.Spec PyProof.Rows L2
theorem word_iff' (k : Str) : isWord k = (decide (1 ≤ k.length) && (decide (k.length ≤ 6) && (cl k).all isLet)) := by unfold isWord; rw [Bool.and_assoc]
theorem all_out' (l : List Nat) (p : Nat → Bool) : (l.map fun c => p c).all id = l.all p := by
  induction l with
  | nil => rfl
  | cons c r ih => rw [List.map_cons, List.all_cons, List.all_cons, ih]; rfl
/-! ### the own list of forms -/
def code (c : Nat) : Str := if c = 107 then "w" else if c = 118 then "v" else "t"
def formOf (t : Stm) : List Str := t.word :: t.sg.map code
def temps : List Stm := [.read "" "", .set "" 0, .copy "" "", .print "", .say 0, .wait, .stop, .ite "" 0 [] [], .same "" "" [] [], .rep 0 []]
def formL : List (List Str) := [["read", "w", "w"], ["set", "w", "v"], ["copy", "w", "w"], ["print", "w"], ["say", "v"], ["wait"], ["stop"], ["if", "w", "v"], ["same", "w", "w"], ["repeat", "t"]]
theorem formL_eq : formL = temps.map formOf := by decide +kernel
def codeOk (f z : Str) : Bool := if f = "w" then isWord z else if f = "v" then within z (-99) 99 else within z 0 3
theorem codeOk_w (z : Str) : codeOk "w" z = isWord z := if_pos rfl
theorem codeOk_v (z : Str) : codeOk "v" z = within z (-99) 99 := by unfold codeOk; rw [if_neg (by decide), if_pos rfl]
theorem codeOk_t (z : Str) : codeOk "t" z = within z 0 3 := by unfold codeOk; rw [if_neg (by decide), if_neg (by decide)]
theorem code_item {c : Nat} (hc : c = 107 ∨ c = 118 ∨ c = 116) (z : Str) : codeOk (code c) z = !decide (itemOf z c = .non) := by
  rcases hc with rfl | rfl | rfl
  · rw [show code 107 = "w" from rfl, codeOk_w]
    unfold itemOf
    rw [if_pos rfl]
    by_cases h : isWord z = true
    · rw [if_pos h, h]; rfl
    · rw [if_neg h]
      have : isWord z = false := by simpa using h
      rw [this]; rfl
  · rw [show code 118 = "v" from rfl, codeOk_v]
    unfold within
    cases e : numOf z with
    | none =>
      have v : itemOf z 118 = .non := by unfold itemOf; rw [if_neg (by decide), e]
      rw [v]; rfl
    | some n =>
      have v : itemOf z 118 = .int n := by
        unfold itemOf; rw [if_neg (by decide), e]
        exact if_neg fun k => absurd k.1 (by decide)
      have iv := numOf_val e
      unfold isValue at iv
      rw [v]
      dsimp only
      rw [iv]; rfl
  · rw [show code 116 = "t" from rfl, codeOk_t]
    unfold within
    cases e : numOf z with
    | none =>
      have v : itemOf z 116 = .non := by unfold itemOf; rw [if_neg (by decide), e]
      rw [v]; rfl
    | some n =>
      dsimp only
      by_cases h : 0 ≤ n ∧ n ≤ 3
      · have v : itemOf z 116 = .int n := by
          unfold itemOf; rw [if_neg (by decide), e]
          exact if_neg fun k => k.2 h
        rw [v, decide_eq_true h.1, decide_eq_true h.2]; rfl
      · have v : itemOf z 116 = .non := by
          unfold itemOf; rw [if_neg (by decide), e]
          exact if_pos ⟨rfl, h⟩
        rw [v]
        by_cases a : 0 ≤ n
        · rw [decide_eq_false (fun b => h ⟨a, b⟩), Bool.and_false]; rfl
        · rw [decide_eq_false a]; rfl
theorem sgLen (s : Stm) : s.sg.length = s.flats.length := by cases s <;> rfl
theorem sg_codes (t : Stm) : ∀ c ∈ t.sg, c = 107 ∨ c = 118 ∨ c = 116 := by cases t <;> simp [Stm.sg, Stm.signs, Stm.flats]
/-- words that are of a form -/
def fits (f W : List Str) : Bool := decide (W[0]? = f[0]?) && (decide (W.length = f.length) && (List.zipWith codeOk (f.drop 1) (W.drop 1)).all id)
theorem temps_mem {w : Str} {t : Stm} (h : temp w = some t) : t ∈ temps := by
  rcases temp_shape h with rfl | rfl | rfl | rfl | rfl | rfl | rfl | rfl | rfl | rfl <;> simp [temps]
theorem temps_temp : ∀ t ∈ temps, temp t.word = some t := by
  intro t h
  simp only [temps, List.mem_cons, List.not_mem_nil, or_false] at h
  rcases h with rfl | rfl | rfl | rfl | rfl | rfl | rfl | rfl | rfl | rfl <;> rfl
theorem fits_head {w : Str} {ws : List Str} {t : Stm} (ht : temp w = some t) : fits (formOf t) (w :: ws) = (headW (w :: ws)).isSome := by
  have tw := (temp_word ht).1
  have e1 : (w :: ws)[0]? = (formOf t)[0]? := by show some w = some t.word; rw [tw]
  unfold fits
  rw [decide_eq_true e1, Bool.true_and]
  show (_ && _) = ((temp w).bind _).isSome
  rw [ht]
  show _ = (if ws.length = t.flats.length then _ else _ : Option Stm).isSome
  have ll : (w :: ws).length = (formOf t).length ↔ ws.length = t.flats.length := by
    unfold formOf
    rw [List.length_cons, List.length_cons, List.length_map, sgLen]
    omega
  by_cases hl : ws.length = t.flats.length
  · rw [decide_eq_true (ll.mpr hl), if_pos hl, Bool.true_and]
    have key : (List.zipWith codeOk (t.sg.map code) ws).all id = !(itemsV t ws).any (fun v => decide (v = V.non)) := by
      have g : ∀ (cs : List Nat) (us : List Str), (∀ c ∈ cs, c = 107 ∨ c = 118 ∨ c = 116) → (List.zipWith codeOk (cs.map code) us).all id = !(List.zipWith itemOf us cs).any (fun v => decide (v = V.non)) := by
        intro cs
        induction cs with
        | nil => intro us _; cases us <;> rfl
        | cons c r ih =>
          intro us h
          cases us with
          | nil => rfl
          | cons u us =>
            show (codeOk (code c) u && _) = !(decide (itemOf u c = V.non) || _)
            rw [code_item (h c List.mem_cons_self), ih us (fun c hc => h c (List.mem_cons_of_mem _ hc)), Bool.not_or]
      exact g _ _ (sg_codes t)
    show (List.zipWith codeOk (t.sg.map code) ws).all id = _
    rw [key]
    cases (itemsV t ws).any fun v => decide (v = V.non) <;> rfl
  · rw [decide_eq_false (fun h => hl (ll.mp h)), if_neg hl]
    rfl
theorem fits_word {t : Stm} {w : Str} {ws : List Str} (ht : t ∈ temps) (h : fits (formOf t) (w :: ws) = true) : t.word = w := by
  unfold fits at h
  rw [Bool.and_eq_true] at h
  have e := of_decide_eq_true h.1
  exact (Option.some.inj e).symm
def kindW (W : List Str) : Str := match headW W with | none => "no" | some s => s.word
def kindS (i : Nat) (z : Str) : Str := match headS i z with | none => "no" | some s => s.word
theorem kind_none {w : Str} {ws : List Str} (h : ∀ f ∈ formL, fits f (w :: ws) = false) : headW (w :: ws) = none := by
  cases ht : temp w with
  | none => show (temp w).bind _ = none; rw [ht]; rfl
  | some t =>
    have e := fits_head (ws := ws) ht
    rw [h _ (by rw [formL_eq]; exact List.mem_map.mpr ⟨t, temps_mem ht, rfl⟩)] at e
    cases q : headW (w :: ws) with
    | none => rfl
    | some s => rw [q] at e; cases e
theorem kind_some {w : Str} {ws f : List Str} (hf : f ∈ formL) (h : fits f (w :: ws) = true) : ∃ s, headW (w :: ws) = some s ∧ s.word = w := by
  rw [formL_eq] at hf
  obtain ⟨t, ht, rfl⟩ := List.mem_map.mp hf
  have e := fits_word ht h
  have tt := temps_temp t ht
  rw [e] at tt
  have g := fits_head (ws := ws) tt
  rw [h] at g
  obtain ⟨s, hs⟩ := Option.isSome_iff_exists.mp g.symm
  obtain ⟨t', ht', hw, _⟩ := head_words hs
  exact ⟨s, hs, hw⟩
section
variable {P : Program} {w : World} {K : PySem.W.Frag} {mg : Str → Option Value} {base : Heap}
def spWordG : Sp := fun vs H Q _ => match vs with
  | [x] => ∃ z : Str, x = .str z ∧ z.length ≤ 1000 ∧ ∀ H', Same H H' → Q (.bl (isWord z)) H'
  | _ => False
theorem sc_law_word_good : FnScope ["_law_word", "_law_letter"] ["_law_word"] (defScope s_law_word_good) := ⟨rfl, rfl, rfl, by decide +kernel, rfl, by decide +kernel, by decide +kernel⟩
theorem c_law_word_good (T : Top w K mg) : Cal P w K mg base CX0 1 "_law_word_good" spWordG := by
  refine cal_0 (f_law_word_good T) (g_law_word_good T) sc_law_word_good (fun _ _ _ _ _ _ us hl => match us, hl with | [_], _ => rfl) (fun vs H Q E h => match vs, h with | [_], _ => rfl) (fun cdv A outer s H vs Q E hr h => ?_)
  match vs, h with
  | [x], h =>
  obtain ⟨z, rfl, hz, q⟩ := h
  rw [word_iff'] at q
  refine ⟨_, (pss_one (ps_ret (pe_and (pe_chain op_le op_le pe_int (pcb (z_len T) call_len_str boot_len (pa_cons (pv 0) pa_nil)) pe_int) (pe_one (pcb (z_all T) (cr_all rfl) boot_all (pa_cons (pe_lc (own := [("_law_letter", 1)]) rfl sc_law_word_good.nd (pi_str (pv 0)) (blkOk_by (own := [("_law_letter", 1)]) (N := ["_law_word", "_law_letter"]) (sc := defScope s_law_word_good) (by decide +kernel)) (fun _ _ _ _ _ => (pg_name (i := 1) sc_law_word_good.nd rfl (Or.inl rfl) (Or.inr rfl))) (fun _ _ _ _ _ => pts_nil) (fun _ _ _ _ _ => (pe_cmpR op_in_sign (pv 1) pe_str rfl))) pa_nil)))))), ?_⟩
  refine ⟨_, rfl, _, rfl, Nat.le_of_lt (small1000 hz), _, _, rfl, rfl, _, rfl, ?_⟩
  by_cases c1 : 1 ≤ (z.length : Int)
  case neg =>
    rw [decide_eq_false (show ¬ 1 ≤ z.length by omega)] at q
    rw [decide_eq_false c1]
    exact ifF rfl ⟨_, rfl, ifF rfl (q H (Same.refl _))⟩
  rw [decide_eq_true (show 1 ≤ z.length by omega), Bool.true_and] at q
  rw [decide_eq_true c1]
  refine ifT rfl ⟨_, _, rfl, rfl, _, rfl, ?_⟩
  by_cases c2 : (z.length : Int) ≤ 6
  case neg =>
    rw [decide_eq_false (show ¬ z.length ≤ 6 by omega)] at q
    rw [decide_eq_false c2]
    exact ifF rfl (q H (Same.refl _))
  rw [decide_eq_true (show z.length ≤ 6 by omega), Bool.true_and] at q
  rw [decide_eq_true c2]
  refine ifT rfl ?_
  refine ⟨_, rfl, z, rfl, fun D nD => ?_⟩
  have lk : (cl z).length = z.length := cl_len z
  refine lc_opt walk_str (fun (v : Bool) y _ => y = .bl v) (fun i => ((cl z)[i]?).map fun c => isLet c) nD (small1000 (by show z.length ≤ 1000; omega)) (fun _ _ => trivial) (fun _ _ _ _ h _ => h) (fun _ _ _ _ _ h _ => h) ?_ ?_
  · rintro i x H2 H3 N hi e ⟨rfl, c, hc, rfl⟩ hk2 _
    refine ⟨rfl, yesI ⟨_, rfl, c, _, rfl, rfl, hk2 _ _ (isLet c) ?_ (Same.refl _) rfl⟩⟩
    have hc' : (cl z)[i]? = some c := by simpa using hc
    rw [hc']
    rfl
  intro H2 ys e hD hp'
  rw [show z.cps.size = (cl z).length from lk.symm, map_at] at hp'
  have hys : ys = ((cl z).map fun c => isLet c).map V.bl := paired_eq hp'
  refine ⟨D, _, rfl, SqL.of (by rw [hD, hys]), ?_⟩
  rw [all_out']
  exact q H2 e
end
end RM

set_option Elab.async false
set_option linter.all false
set_option maxRecDepth 100000
set_option maxHeartbeats 8000000
set_option pp.maxSteps 600
set_option pp.deepTerms false
namespace RM
open PySem PySem.Spec PyProof.Rows L2
theorem form_shape : ∀ f ∈ formL, ∃ f0 fr, f = f0 :: fr ∧ fr.length ≤ 2 := by
  intro f hf
  simp only [formL, List.mem_cons, List.not_mem_nil, or_false] at hf
  rcases hf with rfl | rfl | rfl | rfl | rfl | rfl | rfl | rfl | rfl | rfl <;> exact ⟨_, _, rfl, by decide⟩
theorem paired_at' {α β : Type} {F : α → β → Prop} : ∀ {l : List α} {m : List β}, Paired F l m → ∀ {i : Nat} {x : α}, l[i]? = some x → ∃ y, m[i]? = some y ∧ F x y
  | _, _, .nil, i, x, h => by simp at h
  | _, _, .cons h t, 0, x, e => by cases e; exact ⟨_, rfl, h⟩
  | _, _, .cons h t, i + 1, x, e => paired_at' t (i := i) e
theorem fits_cons (f0 w0 : Str) (fr ws : List Str) : fits (f0 :: fr) (w0 :: ws) = (decide (w0 = f0) && (decide ((w0 :: ws).length = (f0 :: fr).length) && (List.zipWith codeOk fr ws).all id)) := by
  have e : decide ((w0 :: ws)[0]? = (f0 :: fr)[0]?) = decide (w0 = f0) := by
    show decide (some w0 = some f0) = _
    by_cases h : w0 = f0
    · rw [decide_eq_true h, decide_eq_true (congrArg some h)]
    · rw [decide_eq_false h, decide_eq_false fun k => h (Option.some.inj k)]
  unfold fits
  rw [e]
  rfl
theorem end_of {H H' : Hp} (_ : Same H H') : ∃ HE, HE = H' := ⟨_, rfl⟩
section
variable {P : Program} {w : World} {K : PySem.W.Frag} {mg : Str → Option Value} {base : Heap}
def spKind (K : PySem.W.Frag) : Sp := fun vs H Q _ => match vs with
  | [x, y] => ∃ (z : Str) (ind : Nat), x = .str z ∧ y = .int ind ∧ z.length ≤ 900 ∧ ind ≤ 900 ∧ ∀ H', Same H H' → Q (.str (kindS ind z)) H'
  | _ => False
theorem sc_law_kind : FnScope ["_law_line", "_law_indent", "_law_k", "_law_words", "_law_forms", "_law_form", "_law_good"] ["_law_line", "_law_indent"] (defScope s_law_kind) := ⟨rfl, rfl, rfl, by decide +kernel, rfl, by decide +kernel, by decide +kernel⟩
theorem c_law_kind (T : Top w K mg) : Cal P w K mg base CX0 2 "_law_kind" (spKind K) := by
  refine cal_0 (f_law_kind T) (g_law_kind T) sc_law_kind (fun _ _ _ _ _ _ us hl => match us, hl with | [_, _], _ => rfl) (fun vs H Q E h => match vs, h with | [_, _], _ => rfl) (fun cdv A outer s H vs Q E hr h => ?_)
  match vs, h with
  | [x, y], h =>
  obtain ⟨z, ind, rfl, rfl, hz, hi, q⟩ := h
  have hzs : z.length ≤ sizeLine := Nat.le_of_lt (small1000 (by omega))
  unfold kindS headS at q
  -- slots: ["_law_line", "_law_indent", "_law_k", "_law_words", "_law_forms", "_law_form", "_law_good"]
  refine ⟨_, (pss_cons (ps_if (pt_cmpR op_ne (pe_slice sl_str (pv 0) po_none (po_some (pv 1))) (pe_join pe_str (pe_lc (own := [("_law_k", 2)]) rfl sc_law_kind.nd (pi_range1 rfl (z_range T) (pa_cons (pv 1) pa_nil)) (blkOk_by (own := [("_law_k", 2)]) (N := ["_law_line", "_law_indent", "_law_k", "_law_words", "_law_forms", "_law_form", "_law_good"]) (sc := defScope s_law_kind) (by decide +kernel)) (fun _ _ _ _ _ => (pg_name (i := 2) sc_law_kind.nd rfl (Or.inl rfl) (Or.inr rfl))) (fun _ _ _ _ _ => pts_nil) (fun _ _ _ _ _ => pe_str))) (nomark _))
      (pss_one (ps_ret pe_str))
      pss_nil)
    (pss_cons (ps_set (i := 3) sc_law_kind.nd rfl (Or.inl rfl) (pe_split (pe_slice sl_str (pv 0) (po_some (pv 1)) po_none) pe_str))
    (pss_cons (ps_set (i := 4) sc_law_kind.nd rfl (Or.inl rfl) (pe_lst (pa_cons (pe_lst (pa_cons pe_str (pa_cons pe_str (pa_cons pe_str pa_nil)))) (pa_cons (pe_lst (pa_cons pe_str (pa_cons pe_str (pa_cons pe_str pa_nil)))) (pa_cons (pe_lst (pa_cons pe_str (pa_cons pe_str (pa_cons pe_str pa_nil)))) (pa_cons (pe_lst (pa_cons pe_str (pa_cons pe_str pa_nil))) (pa_cons (pe_lst (pa_cons pe_str (pa_cons pe_str pa_nil))) (pa_cons (pe_lst (pa_cons pe_str pa_nil)) pa_nil))))))))
    (pss_cons (ps_set (i := 4) sc_law_kind.nd rfl (Or.inl rfl) (pe_op op_cat (pv 4) (pe_lst (pa_cons (pe_lst (pa_cons pe_str pa_nil)) (pa_cons (pe_lst (pa_cons pe_str (pa_cons pe_str (pa_cons pe_str pa_nil)))) (pa_cons (pe_lst (pa_cons pe_str (pa_cons pe_str (pa_cons pe_str pa_nil)))) (pa_cons (pe_lst (pa_cons pe_str (pa_cons pe_str pa_nil))) pa_nil)))))))
    (pss_cons (ps_for PassesOwn.never rfl (pi_list (pv 4)) (pg_name (i := 5) sc_law_kind.nd rfl (Or.inl rfl))
      (pss_one (ps_if (PW.pt (pw_and (pt_cmpR op_eq (pe_ix ix_list (pv 3) pe_int (fun _ _ => rfl)) (pe_ix ix_list (pv 5) pe_int (fun _ _ => rfl)) (nomark _)) (pw_and1 (pt_cmpR op_eq (pcb (z_len T) call_len_seq boot_len (pa_cons (pv 3) pa_nil)) (pcb (z_len T) call_len_seq boot_len (pa_cons (pv 5) pa_nil)) (nomark _)))))
      (pss_cons (ps_set (i := 6) sc_law_kind.nd rfl (Or.inl rfl) pe_bl)
    (pss_cons (ps_for PassesOwn.never rfl (pi_range2 rfl (z_range T) (pa_cons pe_int (pa_cons (pcb (z_len T) call_len_seq boot_len (pa_cons (pv 5) pa_nil)) pa_nil))) (pg_name (i := 2) sc_law_kind.nd rfl (Or.inl rfl))
      (pss_one (ps_if (pt_cmpR op_eq (pe_ix ix_list (pv 5) (pv 2) (fun _ _ => rfl)) pe_str (nomark _))
      (pss_one (ps_set (i := 6) sc_law_kind.nd rfl (Or.inl rfl) (pe_and (pv 6) (pe_one (pc (c_law_word_good T) hr (pa_cons (pe_ix ix_list (pv 3) (pv 2) (fun _ _ => rfl)) pa_nil))))))
      (pss_one (ps_if (pt_cmpR op_eq (pe_ix ix_list (pv 5) (pv 2) (fun _ _ => rfl)) pe_str (nomark _))
      (pss_one (ps_set (i := 6) sc_law_kind.nd rfl (Or.inl rfl) (pe_and (pv 6) (pe_one (pc (c_law_number_good T) hr (pa_cons (pe_ix ix_list (pv 3) (pv 2) (fun _ _ => rfl)) (pa_cons (pe_un un_neg pe_int) (pa_cons pe_int pa_nil))))))))
      (pss_one (ps_set (i := 6) sc_law_kind.nd rfl (Or.inl rfl) (pe_and (pv 6) (pe_one (pc (c_law_number_good T) hr (pa_cons (pe_ix ix_list (pv 3) (pv 2) (fun _ _ => rfl)) (pa_cons pe_int (pa_cons pe_int pa_nil)))))))))))))
    (pss_one (ps_if (pt_truth (pv 6) (by intro _; rfl))
      (pss_one (ps_ret (pe_ix ix_list (pv 3) pe_int (fun _ _ => rfl))))
      pss_nil))))
      pss_nil)))
    (pss_one (ps_ret pe_str))))))), ?_⟩
  refine ⟨_, rfl, _, rfl, _, rfl, z, rfl, hzs, ⟨_, rfl⟩, _, rfl, ind, rfl, by omega, by omega, ?_⟩
  intro D nD
  refine lc_opt (walk_range (lo := 0) (n := ind)) (fun (_ : Unit) y _ => y = .str " ") (fun _ => some ()) nD (small1000 (by omega)) (fun _ _ => trivial) (fun _ _ _ _ h _ => h) (fun _ _ _ _ _ h _ => h) ?_ ?_
  · rintro j y H6 H7 N hj e ⟨rfl, rfl⟩ hk _
    exact ⟨rfl, yesI (hk _ _ () rfl (Same.refl _) rfl)⟩
  intro H6 ys e6 hD hp'
  rw [paired_const hp', range_some, List.length_map, List.length_range, show List.replicate ind (V.str " ") = (List.replicate ind (" " : Str)).map V.str by rw [List.map_replicate]] at hD
  refine ⟨_, D, _, rfl, rfl, .inl (SqL.of hD), (by rw [blanks_sum, List.length_replicate]; show ind + ind * ("" : Str).length ≤ _; rw [show ("" : Str).length = 0 by decide +kernel]; omega), ?_⟩
  rw [join_blanks]
  refine ⟨rfl, _, rfl, ?_⟩
  by_cases hp : cutS z none (some (ind : Int)) = spc ind
  case neg =>
    rw [if_neg hp] at q
    refine ifT (by
      show (!decide (V.str (cutS z none (some (ind : Int))) = V.str (spc ind))) = true
      rw [decide_eq_false fun e => hp (V.str.inj e)]
      rfl) ?_
    exact q H6 e6
  rw [if_pos hp] at q
  refine ifF (by
    show (!decide (V.str (cutS z none (some (ind : Int))) = V.str (spc ind))) = false
    rw [decide_eq_true (congrArg V.str hp)]
    rfl) ?_
  -- words
  obtain ⟨y, ey⟩ : ∃ y, y = cutS z (some (ind : Int)) none := ⟨_, rfl⟩
  have ly : y.length ≤ 900 := by
    have := cut_suf z ind
    rw [← ey] at this
    have e := congrArg List.length this
    rw [cl_len, List.length_drop, cl_len] at e
    omega
  refine ⟨_, rfl, _, rfl, _, rfl, _, rfl, hzs, ⟨_, rfl⟩, _, _, rfl, rfl, by decide +kernel, Nat.le_of_lt (small1000 (by rw [← ey]; omega)), fun p0 np0 => ?_⟩
  rw [← ey] at q ⊢
  have wlen : ∀ v ∈ Txt.split y " ", v.length ≤ 1000 := fun v hv => Nat.le_trans (split_part hv).1 (by omega)
  have wcnt : (Txt.split y " ").length ≤ 902 := by have := PyProof.Rows.split_le y " "; omega
  cases hW : Txt.split y " " with
  | nil => exact absurd hW (split_ne _)
  | cons w0 ws =>
  rw [hW] at q wlen wcnt
  have e7 := smNew e6 np0 (.lst ((w0 :: ws).map V.str))
  have hw1 : (upd H6 p0 (.lst ((w0 :: ws).map V.str))) p0 = some (.lst ((w0 :: ws).map V.str)) := upd_same
  obtain ⟨H7, eH7⟩ : ∃ H7, H7 = upd H6 p0 (.lst ((w0 :: ws).map V.str)) := ⟨_, rfl⟩
  rw [← eH7] at e7 hw1 ⊢
  clear eH7
  -- the forms
  refine ⟨(by show 3 ≤ sizeLine; decide), fun p1 n1 => ?_⟩
  have u1 := smNew1 n1 (.lst [.str "read", .str "w", .str "w"])
  refine ⟨(by show 3 ≤ sizeLine; decide), fun p2 n2 => ?_⟩
  have u2 := smNew1 n2 (.lst [.str "set", .str "w", .str "v"])
  refine ⟨(by show 3 ≤ sizeLine; decide), fun p3 n3 => ?_⟩
  have u3 := smNew1 n3 (.lst [.str "copy", .str "w", .str "w"])
  refine ⟨(by show 2 ≤ sizeLine; decide), fun p4 n4 => ?_⟩
  have u4 := smNew1 n4 (.lst [.str "print", .str "w"])
  refine ⟨(by show 2 ≤ sizeLine; decide), fun p5 n5 => ?_⟩
  have u5 := smNew1 n5 (.lst [.str "say", .str "v"])
  refine ⟨(by show 1 ≤ sizeLine; decide), fun p6 n6 => ?_⟩
  have u6 := smNew1 n6 (.lst [.str "wait"])
  refine ⟨(by show 6 ≤ sizeLine; decide), fun pA nA => ?_⟩
  have uA := smNew1 nA (.lst [.ref p1, .ref p2, .ref p3, .ref p4, .ref p5, .ref p6])
  refine ⟨_, rfl, ?_⟩
  refine ⟨(by show 1 ≤ sizeLine; decide), fun p7 n7 => ?_⟩
  have u7 := smNew1 n7 (.lst [.str "stop"])
  refine ⟨(by show 3 ≤ sizeLine; decide), fun p8 n8 => ?_⟩
  have u8 := smNew1 n8 (.lst [.str "if", .str "w", .str "v"])
  refine ⟨(by show 3 ≤ sizeLine; decide), fun p9 n9 => ?_⟩
  have u9 := smNew1 n9 (.lst [.str "same", .str "w", .str "w"])
  refine ⟨(by show 2 ≤ sizeLine; decide), fun p10 n10 => ?_⟩
  have u10 := smNew1 n10 (.lst [.str "repeat", .str "t"])
  refine ⟨(by show 4 ≤ sizeLine; decide), fun pB nB => ?_⟩
  have uB := smNew1 nB (.lst [.ref p7, .ref p8, .ref p9, .ref p10])
  have vB := uB
  have v10 := u10.trans vB
  have v9 := u9.trans v10
  have v8 := u8.trans v9
  have v7 := u7.trans v8
  have vA := uA.trans v7
  have v6 := u6.trans vA
  have v5 := u5.trans v6
  have v4 := u4.trans v5
  have v3 := u3.trans v4
  have v2 := u2.trans v3
  obtain ⟨HE, eHE⟩ := end_of uB
  rw [← eHE] at vB v10 v9 v8 v7 vA v6 v5 v4 v3 v2 ⊢
  have pf : Paired (fun a (f : List Str) => HE a = some (.lst (f.map V.str))) [p1, p2, p3, p4, p5, p6, p7, p8, p9, p10] formL := (.cons (v2 _ _ upd_same) (.cons (v3 _ _ upd_same) (.cons (v4 _ _ upd_same) (.cons (v5 _ _ upd_same) (.cons (v6 _ _ upd_same) (.cons (vA _ _ upd_same) (.cons (v8 _ _ upd_same) (.cons (v9 _ _ upd_same) (.cons (v10 _ _ upd_same) (.cons (vB _ _ upd_same) .nil))))))))))
  have hB : HE pB = some (.lst [.ref p7, .ref p8, .ref p9, .ref p10]) := by rw [eHE]; exact upd_same
  have hA : HE pA = some (.lst [.ref p1, .ref p2, .ref p3, .ref p4, .ref p5, .ref p6]) := v7 _ _ upd_same
  have eE : Same H7 HE := u1.trans v2
  clear eHE vB v10 v9 v8 v7 vA v6 v5 v4 v3 v2 u1 u2 u3 u4 u5 u6 uA u7 u8 u9 u10 uB
  refine ⟨pA, pB, _, _, rfl, rfl, hA, hB, (by show 6 + 4 ≤ sizeLine; decide), fun pC nC => ?_⟩
  have uC := smNew1 nC (.lst ([p1, p2, p3, p4, p5, p6, p7, p8, p9, p10].map V.ref))
  obtain ⟨HC, eHC⟩ := end_of uC
  have hC : HC pC = some (.lst ([p1, p2, p3, p4, p5, p6, p7, p8, p9, p10].map V.ref)) := by rw [eHC]; exact upd_same
  rw [← eHC] at uC
  rw [show upd HE pC (.lst ([V.ref p1, .ref p2, .ref p3, .ref p4, .ref p5, .ref p6] ++ [.ref p7, .ref p8, .ref p9, .ref p10])) = HC from eHC.symm]
  have pf2 : Paired (fun a (f : List Str) => HC a = some (.lst (f.map V.str))) [p1, p2, p3, p4, p5, p6, p7, p8, p9, p10] formL := paired_mono pf fun _ _ h => uC _ _ h
  have eC : Same H HC := e7.trans (eE.trans uC)
  have hw2 : HC p0 = some (.lst ((w0 :: ws).map V.str)) := uC _ _ (eE _ _ hw1)
  obtain ⟨ps, eps⟩ : ∃ ps, ps = [p1, p2, p3, p4, p5, p6, p7, p8, p9, p10] := ⟨_, rfl⟩
  rw [← eps] at hC pf2
  have lps : ps.length = 10 := by rw [eps]; rfl
  clear eHC eps pf uC hA hB nC eE e7 hw1
  refine ⟨_, rfl, pC, rfl, ⟨_, SqL.of hC⟩, for_it (walk_list (xs := ps.map V.ref)) (fun i σ H' => Same HC H' ∧ (∀ f ∈ formL.take i, fits f (w0 :: ws) = false) ∧ ∃ v2 v5 v6, σ = [some (.str z), some (.int ind), v2, some (.ref p0), some (.ref pC), v5, v6])
    ⟨Same.refl _, (fun f hf => by simp at hf), _, _, _, rfl⟩ (fun i σ H' _ h => SqL.of (h.1 _ _ hC)) ?_ ?_⟩
  · rintro i x σ H8 H9 hi ⟨s8, hno, v2, v5, v6, rfl⟩ ⟨rfl, hx⟩
    rw [List.getElem?_map] at hx
    obtain ⟨a, ha, rfl⟩ := Option.map_eq_some_iff.mp hx
    obtain ⟨f, hf, hfa⟩ := paired_at' pf2 ha
    have hf8 := s8 _ _ hfa
    have hw8 := s8 _ _ hw2
    have fm := List.mem_of_getElem? hf
    obtain ⟨f0, fr, rfl, lfr⟩ : ∃ f0 fr, f = f0 :: fr ∧ fr.length ≤ 2 := form_shape f fm
    refine ⟨_, rfl, p0, _, _, .str w0, rfl, rfl, SqL.of hw8, at0, _, rfl, a, _, _, .str f0, rfl, rfl, SqL.of hf8, at0, rfl, _, rfl, ?_⟩
    have nxt : fits (f0 :: fr) (w0 :: ws) = false → ∀ g ∈ formL.take (i + 1), fits g (w0 :: ws) = false := fun h g hg => by
      rw [List.take_add_one, hf, List.mem_append] at hg
      rcases hg with hg | hg
      · exact hno g hg
      · rw [List.mem_singleton.mp hg]; exact h
    by_cases e0 : w0 = f0
    case neg =>
      refine ifF (decide_eq_false fun k => e0 (V.str.inj k)) ?_
      refine ifF rfl ?_
      exact ⟨s8, nxt (by rw [fits_cons, decide_eq_false e0]; rfl), _, _, _, rfl⟩
    refine ifT (decide_eq_true (congrArg V.str e0)) ?_
    refine ⟨_, rfl, p0, _, rfl, .inl (SqL.of hw8), _, rfl, a, _, rfl, .inl (SqL.of hf8), rfl, _, rfl, ?_⟩
    have ln : V.int ((((w0 :: ws).map V.str).length : Nat) : Int) = V.int ((((f0 :: fr).map V.str).length : Nat) : Int) ↔ (w0 :: ws).length = (f0 :: fr).length := by
      rw [List.length_map, List.length_map]
      constructor
      · intro e; injection e with e; omega
      · intro e; rw [e]
    by_cases ll : (w0 :: ws).length = (f0 :: fr).length
    case neg =>
      refine ifF (decide_eq_false fun k => ll (ln.mp k)) ?_
      exact ⟨s8, nxt (by rw [fits_cons, decide_eq_false ll, Bool.false_and, Bool.and_false]), _, _, _, rfl⟩
    refine ifT (decide_eq_true (ln.mpr ll)) ?_
    have hfit : fits (f0 :: fr) (w0 :: ws) = (List.zipWith codeOk fr ws).all id := by
      rw [fits_cons, decide_eq_true e0, decide_eq_true ll]
      rfl
    have lws : ws.length = fr.length := by rw [List.length_cons, List.length_cons] at ll; omega
    obtain ⟨go, ego⟩ : ∃ go, go = List.zipWith codeOk fr ws := ⟨_, rfl⟩
    have lgo : go.length = fr.length := by rw [ego, List.length_zipWith, lws, Nat.min_self]
    refine ⟨_, rfl, a, _, rfl, .inl (SqL.of hf8), 1, _, rfl, ⟨by decide, by decide, by omega, by rw [List.length_map, List.length_cons]; omega⟩, ?_⟩
    rw [show (((((f0 :: fr).map V.str).length : Nat) : Int) - 1).toNat = fr.length by rw [List.length_map, List.length_cons]; omega]
    refine for_it (walk_range (lo := 1) (n := fr.length)) (fun j σ H' => Same HC H' ∧ ∃ v2, σ = [some (.str z), some (.int ind), v2, some (.ref p0), some (.ref pC), some (.ref a), some (.bl ((go.take j).all id))]) ⟨s8, _, rfl⟩ (fun _ _ _ _ _ => trivial) ?_ ?_
    · rintro j x σ H10 H11 hj ⟨s10, v2', rfl⟩ ⟨rfl, rfl⟩
      have hf10 := s10 _ _ hfa
      have hw10 := s10 _ _ hw2
      obtain ⟨g, hg⟩ : ∃ g, fr[j]? = some g := ⟨_, List.getElem?_eq_getElem hj⟩
      obtain ⟨u, hu⟩ : ∃ u, ws[j]? = some u := ⟨_, List.getElem?_eq_getElem (by omega)⟩
      have hgo : go[j]? = some (codeOk g u) := by rw [ego, List.getElem?_zipWith, hg, hu]
      have ul := wlen u (List.mem_cons_of_mem _ (List.mem_of_getElem? hu))
      have ek : (1 + (j : Int)) = ((j + 1 : Nat) : Int) := by omega
      have atf : atI ((f0 :: fr).map V.str) (1 + (j : Int)) = some (.str g) := by
        rw [ek]; exact atI_nat (by rw [List.map_cons, List.getElem?_cons_succ, List.getElem?_map, hg]; rfl)
      have atw : atI ((w0 :: ws).map V.str) (1 + (j : Int)) = some (.str u) := by
        rw [ek]; exact atI_nat (by rw [List.map_cons, List.getElem?_cons_succ, List.getElem?_map, hu]; rfl)
      have nx : ∀ (b : Bool) H', Same HC H' → b = ((go.take j).all id && codeOk g u) → ∃ v2, [some (V.str z), some (.int ind), some (.int (1 + (j : Int))), some (.ref p0), some (.ref pC), some (.ref a), some (.bl b)] = [some (V.str z), some (.int ind), v2, some (.ref p0), some (.ref pC), some (.ref a), some (.bl ((go.take (j + 1)).all id))] := fun b H' _ hb => by
        refine ⟨some (.int (1 + (j : Int))), ?_⟩
        rw [List.take_add_one, hgo, List.all_append, hb]
        simp
      refine ⟨_, rfl, _, rfl, a, _, _, .str g, rfl, rfl, SqL.of hf10, atf, rfl, _, rfl, ?_⟩
      by_cases gw : g = "w"
      · refine ifT (decide_eq_true (congrArg V.str gw)) ?_
        refine ⟨_, rfl, _, rfl, ?_⟩
        cases hA : (go.take j).all id with
        | false => exact ifF rfl ⟨s10, nx false _ s10 (by rw [hA]; rfl)⟩
        | true =>
          refine ifT rfl ?_
          refine ⟨_, rfl, _, rfl, p0, _, _, .str u, rfl, rfl, SqL.of hw10, atw, u, rfl, ul, fun H12 e12 => ?_⟩
          exact ⟨s10.trans e12, nx (isWord u) H12 (s10.trans e12) (by rw [hA, gw, codeOk_w]; rfl)⟩
      refine ifF (decide_eq_false fun k => gw (V.str.inj k)) ?_
      refine ⟨_, rfl, _, rfl, a, _, _, .str g, rfl, rfl, SqL.of hf10, atf, rfl, _, rfl, ?_⟩
      by_cases gv : g = "v"
      · refine ifT (decide_eq_true (congrArg V.str gv)) ?_
        refine ⟨_, rfl, _, rfl, ?_⟩
        cases hA : (go.take j).all id with
        | false => exact ifF rfl ⟨s10, nx false _ s10 (by rw [hA]; rfl)⟩
        | true =>
          refine ifT rfl ?_
          refine ⟨_, rfl, _, rfl, p0, _, _, .str u, rfl, rfl, SqL.of hw10, atw, 99, rfl, u, -99, 99, rfl, rfl, rfl, ul, by decide, by decide, fun H12 e12 => ?_⟩
          exact ⟨s10.trans e12, nx (within u (-99) 99) H12 (s10.trans e12) (by rw [hA, gv, codeOk_v]; rfl)⟩
      · refine ifF (decide_eq_false fun k => gv (V.str.inj k)) ?_
        refine ⟨_, rfl, _, rfl, ?_⟩
        cases hA : (go.take j).all id with
        | false => exact ifF rfl ⟨s10, nx false _ s10 (by rw [hA]; rfl)⟩
        | true =>
          refine ifT rfl ?_
          refine ⟨_, rfl, _, rfl, p0, _, _, .str u, rfl, rfl, SqL.of hw10, atw, u, 0, 3, rfl, rfl, rfl, ul, by decide, by decide, fun H12 e12 => ?_⟩
          exact ⟨s10.trans e12, nx (within u 0 3) H12 (s10.trans e12) (by rw [hA]; unfold codeOk; rw [if_neg gw, if_neg gv]; rfl)⟩
    · rintro σ H10 ⟨s10, v2', rfl⟩
      rw [← lgo, List.take_length]
      rw [ego, ← hfit]
      cases hF : fits (f0 :: fr) (w0 :: ws) with
      | true =>
        refine ⟨_, rfl, true, rfl, ifT rfl ?_⟩
        obtain ⟨s, hs, hsw⟩ := kind_some fm hF
        rw [hs] at q
        dsimp only at q
        rw [hsw] at q
        exact ⟨_, rfl, p0, _, _, .str w0, rfl, rfl, SqL.of (s10 _ _ hw2), at0, q _ (eC.trans s10)⟩
      | false =>
        refine ⟨_, rfl, false, rfl, ifF rfl ?_⟩
        exact ⟨s10, nxt hF, _, _, _, rfl⟩
  · rintro σ H8 ⟨s8, hno, v2, v5, v6, rfl⟩
    have hn : headW (w0 :: ws) = none := kind_none fun f hf => hno f (by rw [List.length_map, lps]; exact hf)
    rw [hn] at q
    exact q H8 (eC.trans s8)
end
end RM

set_option Elab.async false
set_option linter.all false
set_option maxRecDepth 100000
set_option maxHeartbeats 2000000
set_option pp.maxSteps 400
set_option pp.deepTerms false
namespace RM
open PySem PySem.Spec PyProof.Rows L2
theorem fform_sg (s : Stm) : cl (fform s) = s.sg := by
  cases s <;> simp only [fform, Stm.sg, Stm.form, Stm.signs, Stm.flats, List.length_cons, List.length_nil] <;> decide +kernel
theorem sg_len (s : Stm) : s.sg.length = s.flats.length := by cases s <;> rfl
theorem itemsV_len {t : Stm} {ws : List Str} (h : ws.length = t.flats.length) : (itemsV t ws).length = ws.length := by
  unfold itemsV
  rw [List.length_zipWith, sg_len, h, Nat.min_self]
theorem non_any (xs : List V) : inV .non xs = xs.any fun v => decide (v = V.non) := by
  unfold inV
  induction xs with
  | nil => rfl
  | cons v r ih => rw [List.any_cons, List.any_cons, ih]; congr 1; cases v <;> rfl
theorem itemOf_flat (z : Str) (c : Nat) : flatV (itemOf z c) = true := by
  unfold itemOf
  split
  · split <;> rfl
  · split
    · rfl
    · split <;> rfl
section
variable {P : Program} {w : World} {K : PySem.W.Frag} {mg : Str → Option Value} {base : Heap}
theorem no_form (T : Top w K mg) {z : Str} (h : temp z = none) : PySem.W.nsIn K (He.ga K "FORMS") z = some none := keysB_no (keys_FORMS T) (temp_none h)
theorem forms_at (T : Top w K mg) : ∃ es m, KDict K w (He.ga K "FORMS") es m := t_FORMS T
def spPlainG (K : PySem.W.Frag) : Sp := fun vs H Q _ => match vs with
  | [x, i] => ∃ (z : Str) (ind : Nat), x = .str z ∧ z.length ≤ 900 ∧ i = .int ind ∧ ind ≤ 1000 ∧ (headS ind z = none → ∀ H', Same H H' → Q .non H') ∧ (∀ s, headS ind z = some s → ∀ a H', Same H H' → SqT K H' a (.str s.word :: s.flats.map vD) → Q (.ref a) H')
  | _ => False
theorem sc_plain_statement : FnScope ["line", "indent", "words", "form", "items", "word", "sign"] ["line", "indent"] (defScope s_plain_statement) := ⟨rfl, rfl, rfl, by decide +kernel, rfl, by decide +kernel, by decide +kernel⟩
theorem c_plain_statement (T : Top w K mg) : Cal P w K mg base CX0 3 "plain_statement" (spPlainG K) := by
  refine cal_0 (f_plain_statement T) (g_plain_statement T) sc_plain_statement (fun _ _ _ _ _ _ us hl => match us, hl with | [_, _], _ => rfl) (fun vs H Q E h => match vs, h with | [_, _], _ => rfl) (fun cdv A outer s H vs Q E hr h => ?_)
  match vs, h with
  | [x, i], h =>
  obtain ⟨z, ind, rfl, hz, rfl, hi, qN, q⟩ := h
  obtain ⟨es, m, D⟩ := forms_at T
  have hzs : z.length ≤ sizeLine := Nat.le_of_lt (small1000 (Nat.le_trans hz (by decide)))
  unfold headS at qN q
  refine ⟨_, (pss_cons (ps_if (pt_cmpR op_ne (pe_slice sl_str (pv 0) po_none (po_some (pv 1))) (pe_op op_spc pe_str (pv 1)) (nomark _))
      (pss_one (ps_ret pe_non))
      pss_nil)
    (pss_cons (ps_set (i := 2) sc_plain_statement.nd rfl (Or.inl rfl) (pe_split (pe_slice sl_str (pv 0) (po_some (pv 1)) po_none) pe_str))
    (pss_cons (ps_if (pt_cmpR (op_notIn_kd D) (pe_ix ix_list (pv 2) pe_int (fun _ _ => rfl)) (pglR (g_FORMS T)) rfl)
      (pss_one (ps_ret pe_non))
      pss_nil)
    (pss_cons (ps_set (i := 3) sc_plain_statement.nd rfl (Or.inl rfl) (pe_repl (pek_ix ix_kdict (pglR (g_FORMS T)) (pek_ix ix_list (pv 2) pek_int (fun _ _ => rfl)) (fun _ _ => rfl))))
    (pss_cons (ps_if (pt_cmpR op_ne (pcb (z_len T) call_len_seq boot_len (pa_cons (pv 2) pa_nil)) (pe_op op_add (pcb (z_len T) call_len_str boot_len (pa_cons (pv 3) pa_nil)) pe_int) (nomark _))
      (pss_one (ps_ret pe_non))
      pss_nil)
    (pss_cons (ps_setLc (i := 4) (own := [("word", 5), ("sign", 6)]) rfl sc_plain_statement.nd rfl rfl (sw_true rfl rfl rfl (by decide +kernel)) (pi_zipLS (by rfl) (z_zip T) (pa_cons (pe_slice sl_list (pv 2) (po_some pe_int) po_none) (pa_cons (pv 3) pa_nil))) (blkOk_by (own := [("word", 5), ("sign", 6)]) (N := ["line", "indent", "words", "form", "items", "word", "sign"]) (sc := defScope s_plain_statement) (by decide +kernel)) (fun _ _ _ _ _ => (pg_tup' (n := 2) (K := K) rfl rfl (pgs_cons (pg_name (i := 5) sc_plain_statement.nd rfl (Or.inl rfl) (Or.inr rfl)) (pgs_cons (pg_name (i := 6) sc_plain_statement.nd rfl (Or.inl rfl) (Or.inr rfl)) pgs_nil)) rfl rfl)) (fun _ _ _ _ _ => pts_nil) (fun _ _ _ _ _ => (pc (c_item_of T) hr (pa_cons (pv 5) (pa_cons (pv 6) pa_nil)))))
    (pss_cons (ps_if (pt_cmpR op_in_seq pe_non (pv 4) rfl)
      (pss_one (ps_ret pe_non))
      pss_nil)
    (pss_one (ps_ret (pe_op op_catG (pe_tup (pa_cons (pe_ix ix_list (pv 2) pe_int (fun _ _ => rfl)) pa_nil)) (pct (z_tuple T) call_tuple_of boot_tuple (pa_cons (pv 4) pa_nil)))))))))))), ?_⟩
  -- line[:indent] != ' ' * indent
  refine ⟨_, rfl, _, rfl, _, rfl, _, rfl, hzs, _, rfl, ind, rfl, rfl, hi, rfl, _, rfl, ?_⟩
  by_cases hp : cutS z none (some (ind : Int)) = spc ind
  case neg =>
    rw [if_neg hp] at qN
    refine ifT (by
      show (!decide (V.str (cutS z none (some (ind : Int))) = V.str (spc ind))) = true
      rw [decide_eq_false fun e => hp (V.str.inj e)]
      rfl) ?_
    exact qN rfl H (Same.refl _)
  rw [if_pos hp] at qN q
  refine ifF (by
    show (!decide (V.str (cutS z none (some (ind : Int))) = V.str (spc ind))) = false
    rw [decide_eq_true (congrArg V.str hp)]
    rfl) ?_
  -- words
  obtain ⟨y, ey⟩ : ∃ y, y = cutS z (some (ind : Int)) none := ⟨_, rfl⟩
  have ly : y.length ≤ 900 := by
    have := cut_suf z ind
    rw [← ey] at this
    have e := congrArg List.length this
    rw [cl_len, List.length_drop, cl_len] at e
    omega
  refine ⟨_, rfl, _, rfl, _, rfl, _, rfl, hzs, ⟨_, rfl⟩, _, _, rfl, rfl, by decide +kernel, Nat.le_of_lt (small1000 (by rw [← ey]; omega)), fun p1 np1 => ?_⟩
  rw [← ey] at qN q ⊢
  have wlen : ∀ v ∈ Txt.split y " ", v.length ≤ 1000 := fun v hv => Nat.le_trans (split_part hv).1 (by omega)
  have wcnt : (Txt.split y " ").length ≤ 902 := by have := PyProof.Rows.split_le y " "; omega
  cases hW : Txt.split y " " with
  | nil => exact absurd hW (split_ne _)
  | cons w0 ws =>
  rw [hW] at qN q wlen wcnt
  have t1 := smNew1 np1 (.lst ((w0 :: ws).map V.str))
  have hw1 : SqL K (upd H p1 (.lst ((w0 :: ws).map V.str))) p1 (.str w0 :: ws.map V.str) := SqL.of upd_same
  generalize upd H p1 (.lst ((w0 :: ws).map V.str)) = H1 at t1 hw1 ⊢
  -- words[0] in FORMS
  cases ht : temp w0 with
  | none =>
    refine ⟨_, rfl, _, _, _, _, rfl, rfl, hw1, at0, _, _, rfl, rfl, no_form T ht, _, rfl, iteT ?_⟩
    exact qN (by show Option.bind (temp w0) _ = none; rw [ht]; rfl) H1 t1
  | some t =>
  have tw := (temp_word ht).1
  obtain ⟨_, _, _, u, hu, ru⟩ := forms T t
  rw [tw] at hu
  refine ⟨_, rfl, _, _, _, _, rfl, rfl, hw1, at0, _, _, rfl, rfl, hu, _, rfl, iteF ?_⟩
  -- form
  have kd := kd_form T t
  rw [tw] at kd
  refine ⟨_, rfl, _, _, _, _, rfl, rfl, hw1, at0, _, _, _, rfl, rfl, kd, ?_⟩
  refine ⟨_, rfl, form_small t, ?_⟩
  -- len(words) = len(form) + 1
  have fl2 := flats_len t
  have hsz : (fform t).length ≤ sizeLine := Nat.le_of_lt (small1000 (by rw [fform_len]; omega))
  refine ⟨_, rfl, _, _, rfl, .inl hw1, _, rfl, _, rfl, hsz, _, _, rfl, rfl, rfl, _, rfl, ?_⟩
  have ln : V.int (((V.str w0 :: ws.map V.str).length : Nat) : Int) = V.int (((fform t).length : Int) + 1) ↔ ws.length = t.flats.length := by
    rw [fform_len, List.length_cons, List.length_map]
    constructor
    · intro e
      injection e with e
      omega
    · intro e
      rw [e]
      rfl
  by_cases hl : ws.length = t.flats.length
  case neg =>
    refine ifT (by
      show (!decide (V.int (((V.str w0 :: ws.map V.str).length : Nat) : Int) = V.int (((fform t).length : Int) + 1))) = true
      rw [decide_eq_false fun e => hl (ln.mp e)]
      rfl) ?_
    exact qN (by show Option.bind (temp w0) _ = none; rw [ht]; exact if_neg hl) H1 t1
  refine ifF (by
    show (!decide (V.int (((V.str w0 :: ws.map V.str).length : Nat) : Int) = V.int (((fform t).length : Int) + 1))) = false
    rw [decide_eq_true (ln.mpr hl)]
    rfl) ?_
  -- items
  refine ⟨_, rfl, _, rfl, _, _, rfl, hw1, fun p2 np2 => ?_⟩
  rw [cut_tail]
  have t2 := smNew1 np2 (.lst (ws.map V.str))
  refine ⟨_, rfl, p2, _, fform t, rfl, SqL.of upd_same, fun D2 nD => ?_⟩
  have hll : (ws.map V.str).length = (fform t).cps.size := by
    rw [List.length_map, hl]
    exact (fform_len t).symm
  refine lc_opt (walk_zipLS hll) (fun (d : V) y _ => y = d) (fun i => (itemsV t ws)[i]?) nD (small1000 (by rw [List.length_map]; omega)) (fun H' e => e.seq (SqL.of upd_same)) (fun _ _ _ _ h _ => h) (fun _ _ _ _ _ h _ => h) ?_ ?_
  · rintro j x H3 H4 N hj e ⟨tt, y, zc, rfl, htt, rfl, hy, hz2⟩ hk _
    obtain ⟨c, hc, rfl⟩ := Option.map_eq_some_iff.mp hz2
    refine ⟨tt, _, rfl, SqT.of upd_same, rfl, _, _, rfl, _, _, rfl, rfl, rfl, ?_⟩
    have hy : (ws.map V.str)[j]? = some y := hy
    rw [List.getElem?_map] at hy
    obtain ⟨d, hd, rfl⟩ := Option.map_eq_some_iff.mp hy
    have hc2 : (cl (fform t))[j]? = some c := by simpa using hc
    rw [fform_sg] at hc2
    refine yesI ⟨_, rfl, _, rfl, d, c, rfl, wlen d (List.mem_cons_of_mem _ (List.mem_of_getElem? hd)), rfl, hk _ _ (itemOf d c) ?_ (smNew1 htt _) rfl⟩
    unfold itemsV
    rw [List.getElem?_zipWith, hd, hc2]
  · intro H3 ys e hD hp'
    rw [show (ws.map V.str).length = (itemsV t ws).length by rw [List.length_map, itemsV_len hl], some_range] at hp'
    have hys : ys = itemsV t ws := by
      have : ∀ {a b : List V}, Paired (fun y d => y = d) a b → a = b := by
        intro a b h
        induction h with
        | nil => rfl
        | cons h _ ih => rw [h, ih]
      exact this hp'
    subst hys
    have t3 : Same H1 H3 := fun b o z => e _ _ (t2 b o z)
    have flat : (itemsV t ws).all flatV = true := by
      rw [List.all_eq_true]
      intro v hv
      unfold itemsV at hv
      obtain ⟨k, hk⟩ := List.getElem?_of_mem hv
      rw [List.getElem?_zipWith] at hk
      split at hk
      · cases hk; exact itemOf_flat _ _
      · cases hk
    refine ⟨_, rfl, D2, _, rfl, .inl (SqL.of hD), rfl, flat, _, rfl, ?_⟩
    have eAny := non_any (itemsV t ws)
    cases hn : (itemsV t ws).any fun v => decide (v = V.non) with
    | true =>
      refine ifT (by rw [eAny, hn]; rfl) ?_
      exact qN (by show Option.bind (temp w0) _ = none; rw [ht]; show (if _ then _ else _) = _; rw [if_pos hl, if_pos hn]) H3 (t1.trans t3)
    | false =>
      refine ifF (by rw [eAny, hn]; rfl) ?_
      have hs : headW (w0 :: ws) = some (fillS t (itemsV t ws)) := by show Option.bind (temp w0) _ = _; rw [ht]; show (if _ then _ else _) = _; rw [if_pos hl, hn, if_neg Bool.false_ne_true]
      obtain ⟨t', ht', hsw, _, _, hfl, _⟩ := head_words hs
      rw [ht] at ht'
      cases ht'
      refine ⟨_, rfl, _, _, _, _, rfl, rfl, t3.seq hw1, at0, (by show 1 ≤ sizeLine; decide), fun p3 np3 => ?_⟩
      have t4 := smNew1 np3 (.tup [.str w0])
      refine ⟨_, rfl, D2, _, rfl, .inl ⟨SqL.of (t4 _ _ hD), fun p4 np4 => ?_⟩⟩
      have t5 := smNew1 np4 (.tup (itemsV t ws))
      refine catA_of (smT t5 (SqT.of upd_same)) (SqT.of upd_same) (Nat.le_of_lt (small1000 (by rw [itemsV_len hl]; show 1 + _ ≤ 1000; omega))) fun tt H5 s6 htt => ?_
      exact q _ hs tt H5 (t1.trans (t3.trans (t4.trans (t5.trans s6)))) (by rw [hsw, hfl]; exact htt)
end
end RM

set_option Elab.async false
set_option linter.all false
set_option maxRecDepth 100000
set_option maxHeartbeats 2000000
namespace RM
open PySem PySem.Spec PyProof.Rows L2
section
variable {P : Program} {w : World} {K : PySem.W.Frag} {mg : Str → Option Value} {base : Heap}
/-! ### an own exception with one field -/
/-- its __init__: the field holds the argument -/
def spExo (C : Addr) (f : Str) : Sp := fun vs H Q _ => match vs with
  | [x, v] => ∃ a, x = .ref a ∧ H a = some (exo a C none) ∧ ∀ dx, H dx = none → dx ≠ a → Q .non (upd (upd H dx (exd dx [(f, v)])) a (exo a C (some dx)))
  | _ => False
theorem exo_0 {qual x : Str} {C : Addr} {k : Nat} {sp : Sp} {st : Stmt} {f : Addr} {N ps : List Str} (F : ∃ fd, FunD K "__init__" qual (defArgs st) (defBody st) (defScope st) [] [] f fd) (T : OexC K C) (M : Meth K C "__init__" f) (hm : mg x = some (.ref C)) (S : FnScope N ps (defScope st))
    (hb : ∀ (kV doc pm : Value) (an : Option Addr) (cdv ct : Value) (us : List Value), us.length = ps.length → bindArgs (PySem.W.fnOf "__init__" qual (defArgs st) (defBody st) (defScope st) .none kV doc pm an cdv ct) ⟨us, []⟩ = pure (ps.zip us))
    (len : ∀ vs H Q E, sp vs H Q E → vs.length = ps.length) (h : Body0 P w K mg base N qual st f k sp) : Exo P w K mg base (k + 1) x C sp :=
  let ⟨fd, F⟩ := F
  ⟨f, fd, ps, T, M, fn_0 F S len h, hm, F.bindsN hb⟩
/-- raise C(v): what is to be shown -/
theorem raise1 {C : Addr} {f : Str} {v : V} {H : Hp} {Q : XK} (q : ∀ d H', H d = none → Same H H' → H' d = some (.xd [(f, v)]) → Q (.ref C) (some d) H') :
    [v].length ≤ 1000 ∧ ∀ a, H a = none → spExo C f (.ref a :: ([v] ++ [])) (upd H a (exo a C none))
      (fun u H2 => u = .non ∧ ∃ (d : Addr) (fs : List (Str × V)), H2 a = some (exo a C (some d)) ∧ H2 d = some (exd d fs) ∧ H d = none ∧ Q (.ref C) (some d) (upd (L2.del H2 a) d (.xd fs))) (fun _ _ _ => False) := by
  refine ⟨by show 1 ≤ 1000; omega, fun a ha => ⟨a, rfl, upd_same, fun dx h1 h2 => ⟨rfl, dx, [(f, v)], upd_same, ?_, ?_, ?_⟩⟩⟩
  · rw [upd_ne h2, upd_same]
  · rw [upd_ne h2] at h1; exact h1
  · have hd : H dx = none := by rw [upd_ne h2] at h1; exact h1
    refine q dx _ hd (fun b o hb => ?_) upd_same
    have n1 : b ≠ a := ne_of_none hb ha
    have n2 : b ≠ dx := ne_of_none hb hd
    rw [upd_ne n2, L2.del_ne n1, upd_ne n1, upd_ne n2, upd_ne n1]
    exact hb
end
/-- all but a is as it was -/
def Off (a : Addr) (H H' : Hp) : Prop := ∀ b u, b ≠ a → H b = some u → H' b = some u
/-! ### what is raised while a thing is locked: it is unlocked on the way out -/
def WUnl (X : Cx) (W : WX) : WX := fun cls dx σ H => ∃ d od u, H d = some (.frz od u) ∧ (∀ o' u', X.H_0 d ≠ some (.frz o' u')) ∧ W cls dx σ (upd H d u)
theorem takes_unl {X : Cx} {W : WX} (tk : Takes X W) : Takes X (WUnl X W) := by
  rintro u s' ⟨a, B, sI, pins, σ, H, cls, dx, e, I, nb, up, sky, na, os, ag, d, od, v, hd, hn, w⟩
  refine tk u s' ⟨a, B, sI, pins, σ, upd H d v, cls, dx, e, I.unlock hd hn, nb, up, sky, ?_, os, ag, w⟩
  rw [upd_ne fun z => by rw [z, hd] at na; cases na]
  exact na
theorem raise1U {X : Cx} {W : WX} {σ : L2.St} {C : Addr} {f : Str} {v : V} {H : Hp} (q : ∀ d H', H d = none → Same H H' → H' d = some (.xd [(f, v)]) → WUnl X W (.ref C) (some d) σ H') :
    [v].length ≤ 1000 ∧ ∀ a, H a = none → spExo C f (.ref a :: ([v] ++ [])) (upd H a (exo a C none))
      (fun u H2 => u = .non ∧ ∃ (d : Addr) (fs : List (Str × V)), H2 a = some (exo a C (some d)) ∧ H2 d = some (exd d fs) ∧ H d = none ∧ WUnl X W (.ref C) (some d) σ (upd (L2.del H2 a) d (.xd fs))) (fun _ _ _ => False) := raise1 (Q := fun cls d H' => WUnl X W cls d σ H') q
end RM

set_option Elab.async false
set_option linter.all false
set_option maxRecDepth 100000
set_option maxHeartbeats 2000000
namespace RM
open PySem PySem.Spec PyProof.Rows L2
theorem flats_flat (s : Stm) : ∀ d ∈ s.flats, (∃ z, d = .str z) ∨ ∃ n, d = .int n := by
  cases s <;> simp [Stm.flats]
theorem filterMap_at2 {α β : Type} (l : List α) (f : α → Option β) : (List.range l.length).filterMap (fun i => (l[i]?).bind f) = l.filterMap f := by
  have := congrArg (List.filterMap f) (some_range l)
  rw [List.filterMap_filterMap] at this
  exact this
/-- the items behind the first k -/
theorem bodies_from {α β : Type} (k : Nat) (l : List α) (g : α → β) : (List.range (k + l.length)).filterMap (fun i => if i < k then none else (l[i - k]?).map g) = l.map g := by
  have e : ∀ n, n ≤ l.length → (List.range (k + n)).filterMap (fun i => if i < k then none else (l[i - k]?).map g) = (l.take n).map g := by
    intro n
    induction n with
    | zero =>
      intro _
      rw [Nat.add_zero, List.take_zero]
      show _ = []
      rw [List.filterMap_eq_nil_iff]
      intro i hi
      rw [if_pos (List.mem_range.mp hi)]
    | succ n ih =>
      intro hn
      have hl : n < l.length := by omega
      rw [show k + (n + 1) = (k + n) + 1 from rfl, List.range_succ, List.filterMap_append, ih (by omega), take_more (List.getElem?_eq_getElem hl), List.map_append, List.filterMap_cons, if_neg (by omega), Nat.add_sub_cancel_left, List.getElem?_eq_getElem hl]
      rfl
  rw [e _ (Nat.le_refl _), List.take_length]
/-- the i-th item of a statement behind its word -/
theorem item_at (s : Stm) (f : List Stm → PyData) {i : Nat} {d : PyData} (h : (s.flats ++ s.bodies.map f)[i]? = some d) :
    (i < s.flats.length ∧ ((∃ z, d = .str z) ∨ ∃ n, d = .int n)) ∨ (¬ i < s.flats.length ∧ ∃ b, b ∈ s.bodies ∧ s.bodies[i - s.flats.length]? = some b ∧ d = f b) := by
  by_cases hi : i < s.flats.length
  · rw [List.getElem?_append_left hi] at h
    exact .inl ⟨hi, flats_flat s d (List.mem_of_getElem? h)⟩
  · rw [List.getElem?_append_right (by omega), List.getElem?_map] at h
    obtain ⟨b, hb, e⟩ := Option.map_eq_some_iff.mp h
    exact .inr ⟨hi, b, List.mem_of_getElem? hb, hb, e.symm⟩
/-! ### sizes, prints -/
mutual
/-- how many prints are counted -/
def pS : Stm → Nat
  | .print _ => 1
  | .ite _ _ a b => max (pB a) (pB b)
  | .same _ _ a b => max (pB a) (pB b)
  | .rep n a => n.toNat * pB a
  | _ => 0
def pB : List Stm → Nat
  | [] => 0
  | s :: r => pS s + pB r
end
def cBs : List (List Stm) → Nat
  | [] => 0
  | b :: r => cB b + cBs r
theorem cS_eq (s : Stm) : cS s = 1 + cBs s.bodies := by
  cases s <;> simp [cS, Stm.bodies, cBs] <;> omega
theorem cBs_sum : ∀ l : List (List Stm), ((l.map fun b => ((cB b : Nat) : Int)).sum) = ((cBs l : Nat) : Int)
  | [] => rfl
  | b :: r => by
    rw [List.map_cons, List.sum_cons, cBs_sum r, cBs]
    omega
theorem pB_app : ∀ (l m : List Stm), pB (l ++ m) = pB l + pB m
  | [], m => by simp [pB]
  | s :: r, m => by rw [List.cons_append, pB, pB, pB_app r m, Nat.add_assoc]
theorem cB_app' : ∀ (l m : List Stm), cB (l ++ m) = cB l + cB m
  | [], m => by simp [cB]
  | s :: r, m => by rw [List.cons_append, cB, cB, cB_app' r m, Nat.add_assoc]
theorem cB_take {l : List Stm} {i : Nat} {s : Stm} (h : l[i]? = some s) : cB (l.take (i + 1)) = cB (l.take i) + cS s := by
  rw [take_more h, cB_app']
  show _ + (cS s + 0) = _
  omega
theorem pB_take {l : List Stm} {i : Nat} {s : Stm} (h : l[i]? = some s) : pB (l.take (i + 1)) = pB (l.take i) + pS s := by
  rw [take_more h, pB_app]
  show _ + (pS s + 0) = _
  omega
end RM

set_option Elab.async false
set_option linter.all false
set_option maxRecDepth 100000
set_option maxHeartbeats 4000000
set_option pp.maxSteps 600
set_option pp.deepTerms false
namespace RM
open PySem PySem.Spec PyProof.Rows L2
theorem drop_head {α : Type} {L : List α} {z : α} {r : List α} {a : Nat} (h : L.drop a = z :: r) : L[a]? = some z := by
  rw [← List.head?_drop, h]
  rfl
theorem drop_next {α : Type} {L : List α} {z : α} {r : List α} {a : Nat} (h : L.drop a = z :: r) : L.drop (a + 1) = r := by
  rw [← List.drop_drop, h]
  rfl
theorem drop_end {α : Type} {L xs e : List α} {a : Nat} (h : L.drop a = xs ++ e) (ha : a ≤ L.length) : L.drop (L.length - e.length) = e ∧ a ≤ L.length - e.length ∧ e.length ≤ L.length := by
  have l := congrArg List.length h
  rw [List.length_drop, List.length_append] at l
  have e1 : L.length - e.length = a + xs.length := by omega
  refine ⟨?_, by omega, by omega⟩
  rw [e1, ← List.drop_drop, h, List.drop_left]
theorem count_b (s : Stm) : Txt.count s.form "b" = s.bodies.length := by cases s <;> simp only [Stm.form, Stm.bodies, List.length_cons, List.length_nil] <;> decide +kernel
theorem flats_dp {H : Hp} {K : PySem.W.Frag} {s : Stm} : DpAll K H (s.flats.map vD) s.flats := by
  have g : ∀ l : List PyData, (∀ d ∈ l, (∃ z, d = .str z) ∨ ∃ n, d = .int n) → DpAll K H (l.map vD) l := by
    intro l
    induction l with
    | nil => intro _; exact .nil
    | cons d r ih =>
      intro h
      rcases h d List.mem_cons_self with ⟨z, rfl⟩ | ⟨n, rfl⟩
      · exact .cons (.str z) (ih fun d hd => h d (List.mem_cons_of_mem _ hd))
      · exact .cons (.int n) (ih fun d hd => h d (List.mem_cons_of_mem _ hd))
  exact g _ (flats_flat s)
theorem put_word {s : Stm} {bs : List (List Stm)} : (s.put bs).word = s.word := by
  cases s <;> (unfold Stm.put; split <;> first | rfl | (rename_i h; cases h <;> rfl))
theorem put_flats {s : Stm} {bs : List (List Stm)} : (s.put bs).flats = s.flats := by
  cases s <;> (unfold Stm.put; split <;> first | rfl | (rename_i h; cases h <;> rfl))
/-- what was read ahead, and the rest -/
def glue (done : List Stm) : Option (List Stm) × List Str → Option (List Stm) × List Str
  | (none, e) => (none, e)
  | (some b, e) => (some (done ++ b), e)
theorem glue_next {done : List Stm} {s : Stm} {x : Option (List Stm) × List Str} : glue done (match x with | (none, e) => (none, e) | (some b, e) => (some (s :: b), e)) = glue (done ++ [s]) x := by
  obtain ⟨o, e⟩ := x
  cases o with
  | none => rfl
  | some b => simp [glue]
section
variable {rec : Nat → List Str → Option (List Stm) × List Str} {i : Nat} {s : Stm} {r e e2 : List Str} {a b : List Stm} {z : Str}
theorem parts0 (h : s.bodies.length = 0) : partsW rec i s r = (some s, r) := by unfold partsW; rw [h]; rfl
theorem parts1 (h : s.bodies.length = 1) (q : rec (i + 2) r = (some a, e)) : partsW rec i s r = (some (s.put [a]), e) := by unfold partsW; rw [h, q]; rfl
theorem bodies_one_two (h : 1 ≤ s.bodies.length) : s.bodies.length = 1 ∨ s.bodies.length = 2 := by
  rcases bodies_cases s with e | ⟨_, e⟩ | ⟨_, _, e⟩ <;> rw [e] at h ⊢
  · exact absurd h (by decide)
  · exact .inl rfl
  · exact .inr rfl
theorem partsE (h : 1 ≤ s.bodies.length) (q : rec (i + 2) r = (none, e)) : partsW rec i s r = (none, e) := by
  unfold partsW
  rcases bodies_one_two h with h | h <;> (rw [h, q]; rfl)
theorem parts2n (h : s.bodies.length = 2) (q : rec (i + 2) r = (some a, [])) : partsW rec i s r = (none, []) := by unfold partsW; rw [h, q]; rfl
theorem parts2x (h : s.bodies.length = 2) (q : rec (i + 2) r = (some a, z :: e)) (n : z ≠ elseL i) : partsW rec i s r = (none, z :: e) := by
  unfold partsW
  rw [h, q]
  exact if_neg n
theorem parts2e (h : s.bodies.length = 2) (q : rec (i + 2) r = (some a, elseL i :: e)) (q2 : rec (i + 2) e = (none, e2)) : partsW rec i s r = (none, e2) := by
  unfold partsW
  rw [h, q]
  dsimp only
  rw [if_pos rfl, q2]
  rfl
theorem parts2 (h : s.bodies.length = 2) (q : rec (i + 2) r = (some a, elseL i :: e)) (q2 : rec (i + 2) e = (some b, e2)) : partsW rec i s r = (some (s.put [a, b]), e2) := by
  unfold partsW
  rw [h, q]
  dsimp only
  rw [if_pos rfl, q2]
  rfl
end
theorem inB_false {i : Nat} {z : Str} (h : inB i z = false) : cutS z none (some (i : Int)) ≠ spc i ∨ z = elseL i := by
  unfold inB at h
  by_cases c : cutS z none (some (i : Int)) = spc i
  · rw [decide_eq_true c, Bool.true_and] at h
    exact .inr (by simpa using h)
  · exact .inl c
theorem inB_true {i : Nat} {z : Str} (h : inB i z = true) : cutS z none (some (i : Int)) = spc i ∧ z ≠ elseL i := by
  unfold inB at h
  rw [Bool.and_eq_true] at h
  exact ⟨of_decide_eq_true h.1, of_decide_eq_true h.2⟩
section
variable {P : Program} {w : World} {K : PySem.W.Frag} {mg : Str → Option Value} {base : Heap}
theorem sc_BadText_init : FnScope ["self", "line"] ["self", "line"] (defScope s_BadText_init) := ⟨rfl, rfl, rfl, by decide +kernel, rfl, by decide +kernel, by decide +kernel⟩
theorem c_BadText_init (T : Top w K mg) : Exo P w K mg base 1 "BadText" (He.ga K "BadText") (spExo (He.ga K "BadText") "line") := by
  refine exo_0 (f_BadText_init T) (oexB_ok (oex_BadText T)) (me_BadText_init T) (g_BadText T) sc_BadText_init (fun _ _ _ _ _ _ us hl => match us, hl with | [_, _], _ => rfl) (fun vs H Q E h => match vs, h with | [_, _], _ => rfl) (fun cdv A outer s H vs Q E hr h => ?_)
  match vs, h with
  | [x, v], h =>
  obtain ⟨a, rfl, ha, q⟩ := h
  refine ⟨_, (pss_one (ps_ost (pv 0) (pv 1))), ?_⟩
  exact ⟨_, rfl, _, rfl, a, _, rfl, oexB_ok (oex_BadText T), na_BadText_line T, .inl ⟨ha, fun dx h1 h2 => q dx h1 h2⟩⟩
/-! ### body_of -/
def spBodyG (K : PySem.W.Frag) (n : Nat) : Sp := fun vs H Q E => match vs with
  | [x, y, z] => ∃ (la : Addr) (L : List Str) (at_ ind : Nat), x = .ref la ∧ y = .int at_ ∧ z = .int ind ∧ SqL K H la (L.map V.str) ∧ at_ ≤ L.length ∧ (L.drop at_).length < n ∧ ind + 2 * n ≤ 900 ∧ L.length ≤ 900 ∧ (∀ z ∈ L, z.length ≤ 900) ∧
      (∀ l e, BR ind (L.drop at_) = (some l, e) → ∀ t v H', Same H H' → SqT K H' t [v, .int ((L.length - e.length : Nat) : Int)] → Dp K H' v (.tuple (encB false l)) → Q (.ref t) H') ∧
      (∀ e, BR ind (L.drop at_) = (none, e) → ∀ d H', Same H H' → H' d = some (.xd [("line", .int (((L.length - e.length : Nat) : Int) + 1))]) → E (.ref (He.ga K "BadText")) (some d) H')
  | _ => False
theorem sc_body_of : FnScope ["lines", "at", "indent", "found", "one", "many", "inner"] ["lines", "at", "indent"] (defScope s_body_of) := ⟨rfl, rfl, rfl, by decide +kernel, rfl, by decide +kernel, by decide +kernel⟩
theorem ok_body_of (T : Top w K mg) {n : Nat} (ih : Cal P w K mg base (L2.CX P w) (n + 3) "body_of" (spBodyG K n)) : Cal P w K mg base (L2.CX P w) (n + 4) "body_of" (spBodyG K (n + 1)) := by
  refine cal_X (f_body_of T) (g_body_of T) sc_body_of (fun _ _ _ _ _ _ us hl => match us, hl with | [_, _, _], _ => rfl) (fun vs H Q E h => match vs, h with | [_, _, _], _ => rfl) (fun cdv A outer s H vs Q E hr h => ?_)
  match vs, h with
  | [x, y, z], h =>
  obtain ⟨la, L, at_, ind, rfl, rfl, rfl, hL, hat0, hdn, hi, lL, zL, q, qE⟩ := h
  refine ⟨_, (pss_cons (ps_set (i := 3) sc_body_of.nd rfl (Or.inl rfl) (pe_lst pa_nil))
    (pss_cons (ps_while (passes_of rfl) (PW.pt (pw_and (pt_cmpR op_lt (pv 1) (pcb (z_len T) call_len_seq boot_len (pa_cons (pv 0) pa_nil)) (nomark _)) (pw_and (pt_cmpR op_eq (pe_slice sl_str (pe_ix ix_list (pv 0) (pv 1) (fun _ _ => rfl)) po_none (po_some (pv 2))) (pe_op op_spc pe_str (pv 2)) (nomark _)) (pw_and1 (pt_cmpR op_ne (pe_ix ix_list (pv 0) (pv 1) (fun _ _ => rfl)) (pe_op op_add_str (pe_op op_spc pe_str (pv 2)) pe_str) (nomark _))))))
      (pss_cons (ps_set (i := 4) sc_body_of.nd rfl (Or.inl rfl) (pc (c_plain_statement T) hr (pa_cons (pe_ix ix_list (pv 0) (pv 1) (fun _ _ => rfl)) (pa_cons (pv 2) pa_nil))))
    (pss_cons (ps_if (pt_cmp (pc_isN (pv 4)) rfl)
      (pss_one (ps_raiseX (takes_of rfl rfl rfl rfl) (c_BadText_init T) hr (pa_cons (pe_op op_add (pv 1) pe_int) pa_nil)))
      pss_nil)
    (pss_cons (ps_aug (i := 1) sc_body_of.nd rfl (Or.inl rfl) pe_int ip_add)
    (pss_cons (ps_set (i := 5) sc_body_of.nd rfl (Or.inl rfl) (pe_m1 F.slot_str_count F.type_str_count mt_count (pe_ix ix_kdict (pglR (g_FORMS T)) (pe_ix ix_tup (pv 4) pe_int (fun _ _ => rfl)) (fun _ _ => rfl)) pe_str))
    (pss_cons (ps_mid (ps_if (pt_cmpR op_gt (pv 5) pe_int (nomark _))
      (pss_cons (ps_asg (pcX (takes_of rfl rfl rfl rfl) ih hr (pa_cons (pv 0) (pa_cons (pv 1) (pa_cons (pe_op op_add (pv 2) pe_int) pa_nil)))) (pg_tup rfl (pgs_cons (pg_name (i := 6) sc_body_of.nd rfl (Or.inl rfl)) (pgs_cons (pg_name (i := 1) sc_body_of.nd rfl (Or.inl rfl)) pgs_nil))))
    (pss_one (ps_set (i := 4) sc_body_of.nd rfl (Or.inl rfl) (pe_op op_catG (pv 4) (pe_tup (pa_cons (pv 6) pa_nil))))))
      pss_nil))
    (pss_cons (ps_mid (ps_if (pt_cmpR op_gt (pv 5) pe_int (nomark _))
      (pss_cons (ps_if (PW.pt (pw_or (pt_cmpR op_ge (pv 1) (pcb (z_len T) call_len_seq boot_len (pa_cons (pv 0) pa_nil)) (nomark _)) (pw_or1 (pt_cmpR op_ne (pe_ix ix_list (pv 0) (pv 1) (fun _ _ => rfl)) (pe_op op_add_str (pe_op op_spc pe_str (pv 2)) pe_str) (nomark _)))))
      (pss_one (ps_raiseX (takes_of rfl rfl rfl rfl) (c_BadText_init T) hr (pa_cons (pe_op op_add (pv 1) pe_int) pa_nil)))
      pss_nil)
    (pss_cons (ps_asg (pcX (takes_of rfl rfl rfl rfl) ih hr (pa_cons (pv 0) (pa_cons (pe_op op_add (pv 1) pe_int) (pa_cons (pe_op op_add (pv 2) pe_int) pa_nil)))) (pg_tup rfl (pgs_cons (pg_name (i := 6) sc_body_of.nd rfl (Or.inl rfl)) (pgs_cons (pg_name (i := 1) sc_body_of.nd rfl (Or.inl rfl)) pgs_nil))))
    (pss_one (ps_set (i := 4) sc_body_of.nd rfl (Or.inl rfl) (pe_op op_catG (pv 4) (pe_tup (pa_cons (pv 6) pa_nil)))))))
      pss_nil))
    (pss_one (ps_expr (pe_bm PySem.F.plainAttrs_list PySem.F.slot_list_append PySem.F.type_list_append mt_append (pv 3) (pa_cons (pv 4) pa_nil)))))))))))
    (pss_one (ps_ret (pe_tup (pa_cons (pct (z_tuple T) call_tuple_of boot_tuple (pa_cons (pv 3) pa_nil)) (pa_cons (pv 1) pa_nil))))))), ?_⟩
  refine ⟨(by show 0 ≤ sizeLine; decide), fun fd nfd => ?_⟩
  have s0 := smNew1 nfd (.lst [])
  refine ⟨fun m σ H' => ∃ a done, m = L.length - a ∧ at_ ≤ a ∧ a ≤ L.length ∧ BR ind (L.drop at_) = glue done (BR ind (L.drop a)) ∧ done.length ≤ a ∧ Same H H' ∧ ∃ f acc, H f = none ∧ H' f = some (.lst acc) ∧ DpAll K H' acc (encB false done) ∧ ∃ v4 v5 v6, σ = [some (.ref la), some (.int (a : Int)), some (.int ind), some (.ref f), v4, v5, v6],
    ⟨L.length - at_, at_, [], rfl, Nat.le_refl _, hat0, ?_, Nat.zero_le _, s0, fd, [], nfd, upd_same, .nil, _, _, _, rfl⟩, ?_⟩
  · cases e : BR ind (L.drop at_) with
    | mk o e2 => cases o <;> rfl
  rintro m σ H1 ⟨a, done, rfl, ha0, ha, hB, hdl, s1, f, acc, nf, hf, hacc, v4, v5, v6, rfl⟩
  have hL1 := s1.seq hL
  have e17 : (L.map V.str).length = L.length := List.length_map ..
  have le17 := else_len ind
  have ldr : (L.drop a).length = L.length - a := List.length_drop ..
  rw [List.length_drop] at hdn
  refine ⟨_, rfl, _, rfl, _, _, rfl, .inl hL1, _, _, rfl, rfl, _, rfl, ?_⟩
  -- the body's end
  have fin : ∀ e, BR ind (L.drop a) = (some [], e) → L.length - e.length = a → ∀ H2, Same H1 H2 → ∀ v4 v5 v6, tRet (tTup (tCons (tCB (fun xs H Q => ∃ p ys, xs = [V.ref p] ∧ (SqL K H p ys ∧ (∀ l, H l = none → Q (.ref l) (upd H l (.tup ys))) ∨ SqT K H p ys ∧ Q (.ref p) H)) (tCons (tVar 3) tNil)) (tCons (tVar 1) tNil))) { nx := fun x H' => Q .non H', rt := Q } [some (.ref la), some (.int (a : Int)), some (.int (ind : Int)), some (.ref f), v4, v5, v6] H2 := by
    intro e he hae H2 s2 v4 v5 v6
    have hf2 := s2 _ _ hf
    refine ⟨_, rfl, f, acc, rfl, .inl ⟨SqL.of hf2, fun p hp => ?_⟩⟩
    have t3 := smNew1 hp (.tup acc)
    refine ⟨_, rfl, (by show 2 ≤ sizeLine; decide), fun p2 np2 => ?_⟩
    have t4 := smNew1 np2 (.tup [.ref p, .int (a : Int)])
    refine q done e (by rw [hB, he]; show (some (done ++ []), e) = _; rw [List.append_nil]) p2 (.ref p) _ (s1.trans (s2.trans (t3.trans t4))) ?_ (.tup (smT t4 (SqT.of upd_same)) (DpAll.keep (s2.trans (t3.trans t4)) hacc))
    rw [hae]
    exact SqT.of upd_same
  by_cases haL : a < L.length
  case neg =>
    have hd0 : L.drop a = [] := List.drop_eq_nil_iff.mpr (by omega)
    refine ifF (decide_eq_false (by rw [e17]; omega)) ?_
    exact fin [] (by rw [hd0]; rfl) (by show L.length - 0 = a; omega) H1 (Same.refl _) _ _ _
  refine ifT (decide_eq_true (by rw [e17]; omega)) ?_
  obtain ⟨z, r, hdr⟩ : ∃ z r, L.drop a = z :: r := by
    cases e : L.drop a with
    | nil => rw [e] at ldr; simp at ldr; omega
    | cons z r => exact ⟨z, r, rfl⟩
  have hatz := drop_head hdr
  have hdr1 := drop_next hdr
  have zl := zL z (List.mem_of_getElem? hatz)
  have lls : z.length ≤ sizeLine := Nat.le_of_lt (small1000 (by omega))
  have atv : atI (L.map V.str) (a : Int) = some (.str z) := atI_nat (by rw [List.getElem?_map, hatz]; rfl)
  have lr : r.length = L.length - (a + 1) := by rw [← hdr1, List.length_drop]
  have hae : L.length - (z :: r).length = a := by rw [List.length_cons]; omega
  refine ⟨_, rfl, _, rfl, _, _, _, _, rfl, rfl, hL1, atv, _, rfl, _, rfl, _, rfl, lls, _, rfl, ind, rfl, rfl, by omega, rfl, _, rfl, ?_⟩
  by_cases hp : cutS z none (some (ind : Int)) = spc ind
  case neg =>
    refine ifF (decide_eq_false fun e => hp (V.str.inj e)) ?_
    exact fin _ (by rw [hdr]; exact BR_out (by unfold inB; rw [decide_eq_false hp]; rfl)) hae H1 (Same.refl _) _ _ _
  refine ifT (decide_eq_true (congrArg V.str hp)) ?_
  refine ⟨_, rfl, _, rfl, _, _, _, _, rfl, rfl, hL1, atv, _, rfl, ind, rfl, rfl, by omega, _, _, rfl, rfl, ?_, rfl, _, rfl, ?_⟩
  · rw [← Str.length_append]
    exact Nat.le_of_lt (small1000 (by show (elseL ind).length ≤ 1000; omega))
  by_cases hel : z = elseL ind
  case pos =>
    refine ifF (by rw [show spc ind ++ "else" = elseL ind from rfl, decide_eq_true (congrArg V.str hel)]; rfl) ?_
    exact fin _ (by rw [hdr]; exact BR_out (by unfold inB; rw [show decide (z ≠ elseL ind) = false from decide_eq_false (fun k => k hel), Bool.and_false])) hae H1 (Same.refl _) _ _ _
  refine ifT (by rw [show spc ind ++ "else" = elseL ind from rfl, decide_eq_false fun e => hel (V.str.inj e)]; rfl) ?_
  have hin : inB ind z = true := by unfold inB; rw [decide_eq_true hp, decide_eq_true hel]; rfl
  refine ⟨fun σ' H' => ∃ a' done, a < a' ∧ at_ ≤ a' ∧ a' ≤ L.length ∧ BR ind (L.drop at_) = glue done (BR ind (L.drop a')) ∧ done.length ≤ a' ∧ Same H H' ∧ ∃ f acc, H f = none ∧ H' f = some (.lst acc) ∧ DpAll K H' acc (encB false done) ∧ ∃ v4 v5 v6, σ' = [some (.ref la), some (.int (a' : Int)), some (.int ind), some (.ref f), v4, v5, v6],
    fun σ' H' h => ?_, ?_⟩
  · obtain ⟨a', done', h1, h2, h3, h4⟩ := h
    exact ⟨L.length - a', by omega, a', done', rfl, h2, h3, h4⟩
  -- one = plain_statement(lines[at], indent)
  refine ⟨_, rfl, _, rfl, _, _, _, _, rfl, rfl, hL1, atv, _, rfl, z, ind, rfl, zl, rfl, by omega, fun hn H2 s2 => ?_, fun st hst o H2 s2 ho => ?_⟩
  · refine ⟨_, rfl, _, rfl, ifT rfl ?_⟩
    refine ⟨_, rfl, _, _, rfl, rfl, ?_⟩
    refine raise1 fun d H' nd e hd => ?_
    refine qE (z :: r) (by rw [hB, hdr, BR_bad hin hn]; rfl) d H' (s1.trans (s2.trans e)) ?_
    rw [hae]
    exact hd
  refine ⟨_, rfl, _, rfl, ifF rfl ?_⟩
  refine ⟨_, rfl, _, _, rfl, rfl, ?_⟩
  refine ⟨_, rfl, _, _, _, _, rfl, rfl, ho, at0, _, _, _, rfl, rfl, kd_form T st, ⟨_, rfl⟩, _, _, rfl, rfl, ?_⟩
  rw [count_b]
  have hL2 := s2.seq hL1
  have fl2 := flats_len st
  have wst := head_line' hst
  -- what goes wrong within its bodies
  have bad : ∀ e, partsW BR ind st r = (none, e) → BR ind (L.drop at_) = (none, e) := fun e he => by
    rw [hB, hdr, BR_in hin hst, he]
    rfl
  have hdr1' : L.drop (a + 1) = r := hdr1
  refine ⟨fun σ' H' => Same H2 H' ∧ ∃ a1 o' bs v6, a < a1 ∧ a1 ≤ L.length ∧ σ' = [some (.ref la), some (.int ((a1 : Nat) : Int)), some (.int ind), some (.ref f), some (.ref o'), some (.int ((st.bodies.length : Nat) : Int)), v6] ∧
    SqT K H' o' (.str st.word :: (st.flats.map vD ++ bs)) ∧ ((st.bodies.length = 0 ∧ a1 = a + 1 ∧ bs = []) ∨ (1 ≤ st.bodies.length ∧ ∃ b1, BR (ind + 2) r = (some b1, L.drop a1) ∧ DpAll K H' bs [.tuple (encB false b1)])), ?_, ?_⟩
  · refine ⟨_, rfl, _, _, rfl, rfl, _, rfl, ?_⟩
    by_cases hb : st.bodies.length = 0
    · refine ifF (decide_eq_false (by rw [hb]; show ¬ (((0 : Nat) : Int) > 0); omega)) ?_
      exact ⟨Same.refl _, a + 1, o, [], _, by omega, haL, rfl, by rw [List.append_nil]; exact ho, .inl ⟨hb, rfl, rfl⟩⟩
    have hb1 : 1 ≤ st.bodies.length := by omega
    refine ifT (decide_eq_true (by show ((st.bodies.length : Nat) : Int) > 0; omega)) ?_
    refine ⟨_, rfl, _, rfl, _, rfl, _, _, rfl, rfl, la, L, a + 1, ind + 2, rfl, rfl, rfl, hL2, haL, by rw [List.length_drop]; omega, by omega, lL, zL, fun b1 e1 he1 t v H3 s3 ht hv => ?_, fun e1 he1 d H3 s3 hd => ?_⟩
    · rw [hdr1'] at he1
      obtain ⟨q1, _⟩ := BR_back he1
      obtain ⟨p1, p2, p3⟩ := drop_end (hdr1'.trans q1) haL
      refine ⟨t, _, rfl, ht, rfl, _, _, rfl, _, _, rfl, rfl, ?_⟩
      refine ⟨_, rfl, _, rfl, (by show 1 ≤ sizeLine; decide), fun p4 np4 => ?_⟩
      have t4 := smNew1 np4 (.tup [v])
      refine catA_of (smT (s3.trans t4) ho) (SqT.of upd_same) (Nat.le_of_lt (small1000 (by rw [List.length_cons, List.length_map]; show _ + 1 + 1 ≤ 1000; omega))) fun t5 H5 s5 h5 => ?_
      refine ⟨s3.trans (t4.trans s5), L.length - e1.length, t5, [v], _, by omega, by omega, rfl, h5, .inr ⟨hb1, b1, by rw [p1]; exact he1, .cons (Dp.keep (t4.trans s5) hv) .nil⟩⟩
    · rw [hdr1'] at he1
      exact qE e1 (bad e1 (partsE hb1 he1)) d H3 (s1.trans (s2.trans s3)) hd
  rintro σ' H3 ⟨s3, a1, o1, bs, v61, ha1, ha1L, rfl, ho1, hpart⟩
  have hL3 := s3.seq hL2
  refine ⟨fun σ' H' => Same H2 H' ∧ ∃ a2 o' bs v6 st2, a < a2 ∧ a2 ≤ L.length ∧ σ' = [some (.ref la), some (.int ((a2 : Nat) : Int)), some (.int ind), some (.ref f), some (.ref o'), some (.int ((st.bodies.length : Nat) : Int)), v6] ∧
    SqT K H' o' (.str st.word :: (st.flats.map vD ++ bs)) ∧ DpAll K H' bs (st2.bodies.map fun b => .tuple (encB false b)) ∧ partsW BR ind st r = (some st2, L.drop a2) ∧ st2.word = st.word ∧ st2.flats = st.flats, ?_, ?_⟩
  · refine ⟨_, rfl, _, _, rfl, rfl, _, rfl, ?_⟩
    rcases hpart with ⟨hb, rfl, rfl⟩ | ⟨hb, b1, hb1, hbs⟩
    · refine ifF (decide_eq_false (by rw [hb]; show ¬ (((0 : Nat) : Int) > 1); omega)) ?_
      have b0 : st.bodies = [] := List.length_eq_zero_iff.mp hb
      exact ⟨s3, a + 1, o1, [], v61, st, ha1, ha1L, rfl, ho1, by rw [b0]; exact .nil, by rw [parts0 hb, hdr1'], rfl, rfl⟩
    rcases bodies_one_two hb with hb | hb
    · refine ifF (decide_eq_false (by rw [hb]; show ¬ (((1 : Nat) : Int) > 1); omega)) ?_
      exact ⟨s3, a1, o1, bs, v61, st.put [b1], ha1, ha1L, rfl, ho1, by rw [put_bodies (by rw [hb]; rfl)]; exact hbs, parts1 hb hb1, put_word, put_flats⟩
    refine ifT (decide_eq_true (by rw [hb]; show ((2 : Nat) : Int) > 1; omega)) ?_
    refine ⟨_, rfl, _, rfl, _, _, rfl, .inl hL3, _, _, rfl, rfl, _, rfl, ?_⟩
    by_cases hend : L.length ≤ a1
    · refine ifT (decide_eq_true (by rw [e17]; omega)) ?_
      have hd0 : L.drop a1 = [] := List.drop_eq_nil_iff.mpr hend
      rw [hd0] at hb1
      refine ifT rfl ?_
      refine ⟨_, rfl, _, _, rfl, rfl, ?_⟩
      refine raise1 fun d H' nd e hd => ?_
      refine qE [] (bad _ (parts2n hb hb1)) d H' (s1.trans (s2.trans (s3.trans e))) ?_
      rw [show L.length - ([] : List Str).length = a1 by show L.length - 0 = a1; omega]
      exact hd
    refine ifF (decide_eq_false (by rw [e17]; omega)) ?_
    obtain ⟨z1, r1, hd1⟩ : ∃ z1 r1, L.drop a1 = z1 :: r1 := by
      have l1 : (L.drop a1).length = L.length - a1 := List.length_drop ..
      cases e : L.drop a1 with
      | nil => rw [e] at l1; simp at l1; omega
      | cons z r => exact ⟨z, r, rfl⟩
    have hatE := drop_head hd1
    have hdB := drop_next hd1
    rw [hd1] at hb1
    have lr1 : r1.length = L.length - (a1 + 1) := by rw [← hdB, List.length_drop]
    refine ⟨_, rfl, _, rfl, _, _, _, _, rfl, rfl, hL3, atI_nat (by rw [List.getElem?_map, hatE]; rfl), _, rfl, ind, rfl, rfl, by omega, _, _, rfl, rfl, ?_, rfl, _, rfl, ?_⟩
    · rw [← Str.length_append]
      exact Nat.le_of_lt (small1000 (by show (elseL ind).length ≤ 1000; omega))
    by_cases he : z1 = elseL ind
    case neg =>
      refine ifT (by rw [show spc ind ++ "else" = elseL ind from rfl, decide_eq_false fun e => he (V.str.inj e)]; rfl) ?_
      refine ⟨_, rfl, _, _, rfl, rfl, ?_⟩
      refine raise1 fun d H' nd e hd => ?_
      refine qE (z1 :: r1) (bad _ (parts2x hb hb1 he)) d H' (s1.trans (s2.trans (s3.trans e))) ?_
      rw [show L.length - (z1 :: r1).length = a1 by rw [List.length_cons]; omega]
      exact hd
    refine ifF (by rw [show spc ind ++ "else" = elseL ind from rfl, decide_eq_true (congrArg V.str he)]; rfl) ?_
    rw [he] at hb1
    refine ⟨_, rfl, _, rfl, _, _, rfl, rfl, _, rfl, _, _, rfl, rfl, la, L, a1 + 1, ind + 2, rfl, rfl, rfl, hL3, by omega, by rw [List.length_drop]; omega, by omega, lL, zL, fun b2 e2 he2 t v H4 s4 ht hv => ?_, fun e2 he2 d H4 s4 hd => ?_⟩
    · rw [hdB] at he2
      obtain ⟨q1, _⟩ := BR_back he2
      obtain ⟨p1, p2, p3⟩ := drop_end (hdB.trans q1) (by omega)
      refine ⟨t, _, rfl, ht, rfl, _, _, rfl, _, _, rfl, rfl, ?_⟩
      refine ⟨_, rfl, _, rfl, (by show 1 ≤ sizeLine; decide), fun p4 np4 => ?_⟩
      have t4 := smNew1 np4 (.tup [v])
      have lbs : bs.length = 1 := DpAll.len hbs
      refine catA_of (smT (s4.trans t4) ho1) (SqT.of upd_same) (Nat.le_of_lt (small1000 (by rw [List.length_cons, List.length_append, List.length_map]; show _ + _ + 1 + 1 ≤ 1000; omega))) fun t5 H5 s5 h5 => ?_
      have k5 := s4.trans (t4.trans s5)
      rw [List.cons_append, List.append_assoc] at h5
      refine ⟨s3.trans k5, L.length - e2.length, t5, bs ++ [v], some v, st.put [b1, b2], by omega, by omega, rfl, h5, ?_, by rw [p1]; exact parts2 hb hb1 he2, put_word, put_flats⟩
      rw [put_bodies (by rw [hb]; rfl)]
      exact DpAll.snoc (DpAll.keep k5 hbs) (Dp.keep (t4.trans s5) hv)
    · rw [hdB] at he2
      exact qE e2 (bad e2 (parts2e hb hb1 he2)) d H4 (s1.trans (s2.trans (s3.trans s4))) hd
  rintro σ' H4 ⟨s4, a2, o2, bs2, v62, st2, ha2, ha2L, rfl, ho2, hbs2, hpw, hwd, hfl⟩
  have k4 : Same H1 H4 := s2.trans s4
  have hf4 := k4 _ _ hf
  have lacc : acc.length = done.length := by rw [DpAll.len hacc, encB_map, List.length_map]
  refine ⟨_, rfl, .inl ⟨rfl, _, SqL.of hf4⟩, _, rfl, f, acc, _, rfl, rfl, hf4, small1000 (by omega), ?_⟩
  have tsF : TS K H4 (upd H4 f (.lst (acc ++ [.ref o2]))) := ts_upd _ hf4 trivial
  have dpt : Dp K H4 (.ref o2) (encS false st2) := by
    rw [encS_eq]
    refine .tup ho2 ?_
    rw [hwd, hfl]
    refine .cons (.str _) (DpAll.app flats_dp ?_)
    exact hbs2
  refine ⟨a2, done ++ [st2], ha2, by omega, ha2L, ?_, by rw [List.length_append]; show done.length + 1 ≤ a2; omega, smOut (s1.trans k4) nf _, f, acc ++ [.ref o2], nf, upd_same, ?_, some (.ref o2), some (.int ((st.bodies.length : Nat) : Int)), v62, rfl⟩
  · rw [hB, hdr, BR_in hin hst, hpw]
    exact glue_next
  · rw [encB_map, List.map_append, ← encB_map]
    exact DpAll.snoc (dps_ts tsF (DpAll.keep k4 hacc) (noL_encB _)) (dp_ts tsF dpt (noL_encS st2))
theorem c_body_of (T : Top w K mg) : ∀ n, Cal P w K mg base (L2.CX P w) (n + 3) "body_of" (spBodyG K n)
  | 0 => calX_never (f_body_of T) (g_body_of T) (ps := ["lines", "at", "indent"]) (fun _ _ _ _ _ _ us hl => match us, hl with | [_, _, _], _ => rfl) fun vs H Q E h => by
      match vs, h with
      | [x, y, z], h =>
      obtain ⟨_, _, _, _, _, _, _, _, _, h, _⟩ := h
      omega
  | n + 1 => ok_body_of T (c_body_of T n)
end
end RM

set_option Elab.async false
set_option linter.all false
set_option maxRecDepth 100000
set_option maxHeartbeats 8000000
set_option pp.maxSteps 600
set_option pp.deepTerms false
namespace RM
open PySem PySem.Spec PyProof.Rows L2
/-! ### the own reading by a stack -/
def atL (n : Nat) (e : List Str) : Nat := n - e.length + 1
/-- behind the first body: a line else, then on -/
def elseR (n i : Nat) (k : List Str → Nat) : List Str → Nat
  | [] => atL n []
  | z :: r => if z = elseL (i - 2) then k r else atL n (z :: r)
theorem elseR_cons (n i : Nat) (k : List Str → Nat) (z : Str) (r : List Str) : elseR n i k (z :: r) = if z = elseL (i - 2) then k r else atL n (z :: r) := rfl
def nextR (n : Nat) (k : List Str → Nat) : Option (List Stm) × List Str → Nat
  | (none, e) => atL n e
  | (some _, e) => k e
def fin (n : Nat) : List (Nat × Str) → List Str → Nat
  | [], e => atL n e
  | (i, q) :: st, ls => nextR n (fun e => if st = [] then (if e = [] then 0 else atL n e) else
      if q = "first" then elseR n i (fun r => nextR n (fun e2 => fin n st e2) (BR i r)) e else fin n st e) (BR i ls)
section
variable {n i : Nat} {q : Str} {st : List (Nat × Str)} {z : Str} {r e : List Str} {s : Stm} {l : List Stm}
theorem fin_none (h : BR i r = (none, e)) : fin n ((i, q) :: st) r = atL n e := by rw [fin, h]; rfl
theorem fin_some (h : BR i r = (some l, e)) : fin n ((i, q) :: st) r = (if st = [] then (if e = [] then 0 else atL n e) else
      if q = "first" then elseR n i (fun r => nextR n (fun e2 => fin n st e2) (BR i r)) e else fin n st e) := by rw [fin, h]; rfl
/-- the same body's rest tells the same -/
theorem fin_rest {ls : List Str} (h : BR i ls = (match BR i r with | (none, e) => (none, e) | (some b, e) => (some (s :: b), e))) : fin n ((i, q) :: st) ls = fin n ((i, q) :: st) r := by
  cases hr : BR i r with
  | mk o e2 =>
    rw [hr] at h
    cases o with
    | none => rw [fin_none h, fin_none hr]
    | some b => rw [fin_some h, fin_some hr]
theorem fin_bad (h : inB i z = true) (hs : headS i z = none) : fin n ((i, q) :: st) (z :: r) = atL n (z :: r) := fin_none (BR_bad h hs)
theorem fin_plain (h : inB i z = true) (hs : headS i z = some s) (hb : s.bodies.length = 0) : fin n ((i, q) :: st) (z :: r) = fin n ((i, q) :: st) r := by
  refine fin_rest (s := s) ?_
  rw [BR_in h hs, parts0 hb]
  try rfl
theorem fin_rep (h : inB i z = true) (hs : headS i z = some s) (hb : s.bodies.length = 1) : fin n ((i, q) :: st) (z :: r) = fin n ((i + 2, "only") :: (i, q) :: st) r := by
  cases h1 : BR (i + 2) r with
  | mk o e1 =>
    cases o with
    | none => rw [fin_none h1, fin_none (by rw [BR_in h hs, partsE (by omega) h1])]
    | some a =>
      rw [fin_some h1, if_neg (by simp), if_neg (by decide)]
      exact fin_rest (s := s.put [a]) (by rw [BR_in h hs, parts1 hb h1]; try rfl)
theorem fin_two (h : inB i z = true) (hs : headS i z = some s) (hb : s.bodies.length = 2) : fin n ((i, q) :: st) (z :: r) = fin n ((i + 2, "first") :: (i, q) :: st) r := by
  cases h1 : BR (i + 2) r with
  | mk o e1 =>
    cases o with
    | none => rw [fin_none h1, fin_none (by rw [BR_in h hs, partsE (by omega) h1])]
    | some a =>
      rw [fin_some h1, if_neg (by simp), if_pos rfl]
      cases e1 with
      | nil => exact fin_none (by rw [BR_in h hs, parts2n hb h1])
      | cons z1 r1 =>
        rw [elseR_cons, show i + 2 - 2 = i from rfl]
        by_cases hz : z1 = elseL i
        · rw [if_pos hz]
          rw [hz] at h1
          cases h2 : BR (i + 2) r1 with
          | mk o2 e2 =>
            cases o2 with
            | none => exact fin_none (by rw [BR_in h hs, parts2e hb h1 h2])
            | some b => exact fin_rest (s := s.put [a, b]) (by rw [BR_in h hs, parts2 hb h1 h2]; try rfl)
        · rw [if_neg hz]
          exact fin_none (by rw [BR_in h hs, parts2x hb h1 hz])
theorem BR_stop (h : r = [] ∨ ∃ z t, r = z :: t ∧ inB i z = false) : BR i r = (some [], r) := by
  rcases h with rfl | ⟨z, t, rfl, h⟩
  · rfl
  · exact BR_out h
theorem fin_end (h : BR i r = (some [], r)) : fin n [(i, q)] r = if r = [] then 0 else atL n r := by rw [fin_some h, if_pos rfl]
theorem fin_pop (h : BR i r = (some [], r)) (hs : st ≠ []) (hq : q ≠ "first") : fin n ((i, q) :: st) r = fin n st r := by rw [fin_some h, if_neg hs, if_neg hq]
theorem fin_first (h : BR i r = (some [], r)) (hs : st ≠ []) : fin n ((i, "first") :: st) r = elseR n i (fun t => fin n ((i, "second") :: st) t) r := by
  rw [fin_some h, if_neg hs, if_pos rfl]
  cases r with
  | nil => rfl
  | cons z t =>
    rw [elseR_cons, elseR_cons]
    by_cases c : z = elseL (i - 2)
    · rw [if_pos c, if_pos c]
      cases h2 : BR i t with
      | mk o e2 =>
        cases o with
        | none => rw [fin_none h2]; rfl
        | some b => rw [fin_some h2, if_neg hs, if_neg (by decide)]; rfl
    · rw [if_neg c, if_neg c]
end
theorem in_two (k : Str) : inV (.str k) [.str "if", .str "same"] = decide (k = ("if" : Str) ∨ k = ("same" : Str)) := by
  have e : ∀ a : Str, (a == k) = decide (k = a) := fun a => by rw [Bool.eq_iff_iff, beq_iff_eq, decide_eq_true_iff]; exact eq_comm
  show ((("if" : Str) == k) || ((("same" : Str) == k) || false)) = _
  rw [e, e, Bool.or_false, Bool.decide_or]
theorem word_kinds (s : Stm) : (s.word ≠ "no") ∧ ((s.word = "if" ∨ s.word = "same") ↔ s.bodies.length = 2) ∧ (s.word = "repeat" ↔ s.bodies.length = 1) := by
  cases s <;> refine ⟨by simp only [Stm.word]; decide, ?_, ?_⟩ <;> simp only [Stm.word, Stm.bodies, List.length_nil, List.length_cons] <;> decide
section
variable {P : Program} {w : World} {K : PySem.W.Frag} {mg : Str → Option Value} {base : Heap}
def pairV (p : Nat × Str) : List V := [.int (p.1 : Int), .str p.2]
/-- the stack's items, each a list of its own -/
def Items (H : Hp) (sa : Addr) (as : List Addr) (T : List (Nat × Str)) : Prop := Paired (fun a (p : Nat × Str) => H a = some (.lst (pairV p)) ∧ a ≠ sa) as T
theorem Items.upd {H : Hp} {sa : Addr} {as : List Addr} {T : List (Nat × Str)} (h : Items H sa as T) (o : HO) : Items (L2.upd H sa o) sa as T := paired_mono h fun a p ⟨x, y⟩ => ⟨by rw [upd_ne y]; exact x, y⟩
theorem Items.keep {H H' : Hp} {sa : Addr} {as : List Addr} {T : List (Nat × Str)} (e : Same H H') (h : Items H sa as T) : Items H' sa as T := paired_mono h fun a p ⟨x, y⟩ => ⟨e _ _ x, y⟩
theorem Items.last {H : Hp} {sa : Addr} : ∀ {as : List Addr} {T : List (Nat × Str)} {p : Nat × Str}, Items H sa as (T ++ [p]) → ∃ as0 a, as = as0 ++ [a] ∧ Items H sa as0 T ∧ H a = some (.lst (pairV p)) ∧ a ≠ sa
  | _, [], p, .cons h .nil => ⟨[], _, rfl, .nil, h.1, h.2⟩
  | _, t :: T, p, .cons h r => let ⟨as0, a, e, x, y⟩ := Items.last (T := T) r; ⟨_ :: as0, a, by rw [e]; rfl, .cons h x, y⟩
def spWrong (K : PySem.W.Frag) : Sp := fun vs H Q _ => match vs with
  | [x] => ∃ (la : Addr) (L : List Str), x = .ref la ∧ SqL K H la (L.map V.str) ∧ L.length ≤ 400 ∧ (∀ z ∈ L, z.length ≤ 900) ∧ ∀ H', Same H H' → Q (.int (fin L.length [(0, "")] L : Nat)) H'
  | _ => False
theorem sc_law_wrong : FnScope ["_law_lines_here", "_law_stack", "_law_at", "_law_indent", "_law_state", "_law_space", "_law_kind_here", "_law_outer", "_law_k"] ["_law_lines_here"] (defScope s_law_wrong) := ⟨rfl, rfl, rfl, by decide +kernel, rfl, by decide +kernel, by decide +kernel⟩
theorem c_law_wrong (T : Top w K mg) : Cal P w K mg base CX0 3 "_law_wrong" (spWrong K) := by
  refine cal_0 (f_law_wrong T) (g_law_wrong T) sc_law_wrong (fun _ _ _ _ _ _ us hl => match us, hl with | [_], _ => rfl) (fun vs H Q E h => match vs, h with | [_], _ => rfl) (fun cdv A outer s H vs Q E hr h => ?_)
  match vs, h with
  | [x], h =>
  obtain ⟨la, L, rfl, hL, lL, zL, q⟩ := h
  have e17 : (L.map V.str).length = L.length := List.length_map ..
  -- slots: ["_law_lines_here", "_law_stack", "_law_at", "_law_indent", "_law_state", "_law_space", "_law_kind_here", "_law_outer", "_law_k"]
  refine ⟨_, (pss_cons (ps_set (i := 1) sc_law_wrong.nd rfl (Or.inl rfl) (pe_lst (pa_cons (pe_lst (pa_cons pe_int (pa_cons pe_str pa_nil))) pa_nil)))
    (pss_cons (ps_set (i := 2) sc_law_wrong.nd rfl (Or.inl rfl) pe_int)
    (pss_one (ps_while PassesOwn.never (pt_val pe_bl)
      (pss_cons (ps_asg (pe_ix ix_list (pv 1) (pe_un un_neg pe_int) (fun _ _ => rfl)) (pg_lst rfl (pgs_cons (pg_name (i := 3) sc_law_wrong.nd rfl (Or.inl rfl)) (pgs_cons (pg_name (i := 4) sc_law_wrong.nd rfl (Or.inl rfl)) pgs_nil))))
    (pss_cons (ps_set (i := 5) sc_law_wrong.nd rfl (Or.inl rfl) (pe_join pe_str (pe_lc (own := [("_law_k", 8)]) rfl sc_law_wrong.nd (pi_range1 rfl (z_range T) (pa_cons (pv 3) pa_nil)) (blkOk_by (own := [("_law_k", 8)]) (N := ["_law_lines_here", "_law_stack", "_law_at", "_law_indent", "_law_state", "_law_space", "_law_kind_here", "_law_outer", "_law_k"]) (sc := defScope s_law_wrong) (by decide +kernel)) (fun _ _ _ _ _ => (pg_name (i := 8) sc_law_wrong.nd rfl (Or.inl rfl) (Or.inr rfl))) (fun _ _ _ _ _ => pts_nil) (fun _ _ _ _ _ => pe_str))))
    (pss_one (ps_if (PW.pt (pw_and (pt_cmpR op_lt (pv 2) (pcb (z_len T) call_len_seq boot_len (pa_cons (pv 0) pa_nil)) (nomark _)) (pw_and (pt_cmpR op_eq (pe_slice sl_str (pe_ix ix_list (pv 0) (pv 2) (fun _ _ => rfl)) po_none (po_some (pv 3))) (pv 5) (nomark _)) (pw_and1 (pt_cmpR op_ne (pe_ix ix_list (pv 0) (pv 2) (fun _ _ => rfl)) (pe_op op_add_str (pv 5) pe_str) (nomark _))))))
      (pss_cons (ps_set (i := 6) sc_law_wrong.nd rfl (Or.inl rfl) (pc (c_law_kind T) hr (pa_cons (pe_ix ix_list (pv 0) (pv 2) (fun _ _ => rfl)) (pa_cons (pv 3) pa_nil))))
    (pss_cons (ps_if (pt_cmpR op_eq (pv 6) pe_str (nomark _))
      (pss_one (ps_ret (pe_op op_add (pv 2) pe_int)))
      pss_nil)
    (pss_cons (ps_if (pt_cmpR op_in_seq (pv 6) (pe_tup (pa_cons pe_str (pa_cons pe_str pa_nil))) rfl)
      (pss_one (ps_expr (pe_bm PySem.F.plainAttrs_list PySem.F.slot_list_append PySem.F.type_list_append mt_append (pv 1) (pa_cons (pe_lst (pa_cons (pe_op op_add (pv 3) pe_int) (pa_cons pe_str pa_nil))) pa_nil))))
      (pss_one (ps_if (pt_cmpR op_eq (pv 6) pe_str (nomark _))
      (pss_one (ps_expr (pe_bm PySem.F.plainAttrs_list PySem.F.slot_list_append PySem.F.type_list_append mt_append (pv 1) (pa_cons (pe_lst (pa_cons (pe_op op_add (pv 3) pe_int) (pa_cons pe_str pa_nil))) pa_nil))))
      pss_nil)))
    (pss_one (ps_set (i := 2) sc_law_wrong.nd rfl (Or.inl rfl) (pe_op op_add (pv 2) pe_int))))))
      (pss_one (ps_if (pt_cmpR op_eq (pcb (z_len T) call_len_seq boot_len (pa_cons (pv 1) pa_nil)) pe_int (nomark _))
      (pss_cons (ps_if (pt_cmpR op_lt (pv 2) (pcb (z_len T) call_len_seq boot_len (pa_cons (pv 0) pa_nil)) (nomark _))
      (pss_one (ps_ret (pe_op op_add (pv 2) pe_int)))
      pss_nil)
    (pss_one (ps_ret pe_int)))
      (pss_cons (ps_expr (pe_bm0 PySem.F.plainAttrs_list PySem.F.slot_list_pop PySem.F.type_list_pop mt_pop (pv 1)))
    (pss_one (ps_if (pt_cmpR op_eq (pv 4) pe_str (nomark _))
      (pss_cons (ps_set (i := 7) sc_law_wrong.nd rfl (Or.inl rfl) (pe_join pe_str (pe_lc (own := [("_law_k", 8)]) rfl sc_law_wrong.nd (pi_range1 rfl (z_range T) (pa_cons (pe_op op_sub (pv 3) pe_int) pa_nil)) (blkOk_by (own := [("_law_k", 8)]) (N := ["_law_lines_here", "_law_stack", "_law_at", "_law_indent", "_law_state", "_law_space", "_law_kind_here", "_law_outer", "_law_k"]) (sc := defScope s_law_wrong) (by decide +kernel)) (fun _ _ _ _ _ => (pg_name (i := 8) sc_law_wrong.nd rfl (Or.inl rfl) (Or.inr rfl))) (fun _ _ _ _ _ => pts_nil) (fun _ _ _ _ _ => pe_str))))
    (pss_cons (ps_if (PW.pt (pw_or (pt_cmpR op_ge (pv 2) (pcb (z_len T) call_len_seq boot_len (pa_cons (pv 0) pa_nil)) (nomark _)) (pw_or1 (pt_cmpR op_ne (pe_ix ix_list (pv 0) (pv 2) (fun _ _ => rfl)) (pe_op op_add_str (pv 7) pe_str) (nomark _)))))
      (pss_one (ps_ret (pe_op op_add (pv 2) pe_int)))
      pss_nil)
    (pss_cons (ps_set (i := 2) sc_law_wrong.nd rfl (Or.inl rfl) (pe_op op_add (pv 2) pe_int))
    (pss_one (ps_expr (pe_bm PySem.F.plainAttrs_list PySem.F.slot_list_append PySem.F.type_list_append mt_append (pv 1) (pa_cons (pe_lst (pa_cons (pv 3) (pa_cons pe_str pa_nil))) pa_nil)))))))
      pss_nil))))))))))))), ?_⟩
  refine ⟨(by show 2 ≤ sizeLine; decide), fun a0 n0 => ⟨(by show 1 ≤ sizeLine; decide), fun sa ns => ?_⟩⟩
  have s0 := smNew1 n0 (.lst (pairV (0, "")))
  have s1 := smNew s0 ns (.lst [.ref a0])
  have na : a0 ≠ sa := fun z => by rw [← z, upd_same] at ns; cases ns
  have nsa : H sa = none := s0.free ns
  refine ⟨fun m σ H' => ∃ T0 i qq at_ as, m = 2 * (L.length - at_) + T0.length ∧ at_ ≤ L.length ∧ Same H H' ∧ H' sa = some (.lst (as.map V.ref)) ∧ Items H' sa as (T0 ++ [(i, qq)]) ∧ i ≤ 2 * at_ ∧ (∀ p ∈ T0, p.1 ≤ 2 * at_) ∧ T0.length ≤ at_ ∧
      fin L.length [(0, "")] L = fin L.length ((i, qq) :: T0.reverse) (L.drop at_) ∧ ∃ v3 v4 v5 v6 v7 v8, σ = [some (.ref la), some (.ref sa), some (.int (at_ : Int)), v3, v4, v5, v6, v7, v8],
    ⟨_, [], 0, "", 0, [a0], rfl, Nat.zero_le _, s1, upd_same, (show Items _ sa [a0] [((0 : Nat), ("" : Str))] from .cons ⟨by rw [upd_ne na]; exact upd_same, na⟩ .nil), Nat.le_refl _, (fun p hp => by simp at hp), Nat.le_refl _, rfl, _, _, _, _, _, _, rfl⟩, ?_⟩
  rintro m σ H1 ⟨T0, i, qq, a, as, rfl, haL, e1, hsa, its, hi, hT, lT, hfin, v3, v4, v5, v6, v7, v8, rfl⟩
  refine ⟨true, rfl, ifT rfl ?_⟩
  refine ⟨fun σ' H' => ∃ T0' i qq a' as, 2 * (L.length - a') + T0'.length < 2 * (L.length - a) + T0.length ∧ a' ≤ L.length ∧ Same H H' ∧ H' sa = some (.lst (as.map V.ref)) ∧ Items H' sa as (T0' ++ [(i, qq)]) ∧ i ≤ 2 * a' ∧ (∀ p ∈ T0', p.1 ≤ 2 * a') ∧ T0'.length ≤ a' ∧
      fin L.length [(0, "")] L = fin L.length ((i, qq) :: T0'.reverse) (L.drop a') ∧ ∃ v3 v4 v5 v6 v7 v8, σ' = [some (.ref la), some (.ref sa), some (.int (a' : Int)), v3, v4, v5, v6, v7, v8],
    fun σ' H' h => ?_, ?_⟩
  · obtain ⟨T0', i', qq', a', as', h1, h2⟩ := h
    exact ⟨_, h1, T0', i', qq', a', as', rfl, h2⟩
  obtain ⟨as0, b, rfl, its0, hb, bs⟩ := its.last
  have hL1 := e1.seq hL
  rw [List.map_append] at hsa
  refine ⟨_, rfl, 1, rfl, sa, _, _, .ref b, rfl, rfl, SqL.of hsa, atI_last _ _, b, pairV (i, qq), rfl, SqL.of hb, rfl, _, _, rfl, _, _, rfl, rfl, ?_⟩
  -- the space
  refine ⟨⟨_, rfl⟩, _, rfl, i, rfl, by omega, by omega, ?_⟩
  intro D nD
  refine lc_opt (walk_range (lo := 0) (n := i)) (fun (_ : Unit) y _ => y = .str " ") (fun _ => some ()) nD (small1000 (by omega)) (fun _ _ => trivial) (fun _ _ _ _ h _ => h) (fun _ _ _ _ _ h _ => h) ?_ ?_
  · rintro j y H6 H7 N hj e ⟨rfl, rfl⟩ hk _
    exact ⟨rfl, yesI (hk _ _ () rfl (Same.refl _) rfl)⟩
  intro H6 ys e6 hD hp'
  rw [paired_const hp', range_some, List.length_map, List.length_range, show List.replicate i (V.str " ") = (List.replicate i (" " : Str)).map V.str by rw [List.map_replicate]] at hD
  refine ⟨_, D, _, rfl, rfl, .inl (SqL.of hD), (by rw [blanks_sum, List.length_replicate]; show i + i * ("" : Str).length ≤ _; rw [show ("" : Str).length = 0 by decide +kernel]; omega), ?_⟩
  rw [join_blanks]
  have hL6 := e6.seq hL1
  have hsa6 := e6 _ _ hsa
  have its6 := its0.keep e6
  have hb6 := e6 _ _ hb
  have e16 := e1.trans e6
  clear hL1 hsa its its0 hb hD hp' nD
  have back : ∀ H', Same H H' → fin L.length [(0, "")] L = a + 1 → Q (.int ((a : Int) + 1)) H' := fun H' e h => by
    have := q H' e
    rw [h] at this
    exact this
  have back0 : ∀ H', Same H H' → fin L.length [(0, "")] L = 0 → Q (.int 0) H' := fun H' e h => by
    have := q H' e
    rw [h] at this
    exact this
  have le17 := else_len i
  refine ⟨_, rfl, _, rfl, _, _, rfl, .inl hL6, _, _, rfl, rfl, _, rfl, ?_⟩
  have cs : L.length ≤ a ∨ (a < L.length ∧ ∃ z r, L.drop a = z :: r ∧ cutS z none (some (i : Int)) ≠ spc i) ∨ (a < L.length ∧ ∃ z r, L.drop a = z :: r ∧ cutS z none (some (i : Int)) = spc i ∧ z = elseL i) ∨ (a < L.length ∧ ∃ z r, L.drop a = z :: r ∧ inB i z = true) := by
    by_cases ha : a < L.length
    · refine .inr ?_
      obtain ⟨z1, r1, hd1⟩ : ∃ z1 r1, L.drop a = z1 :: r1 := by
        have l1 : (L.drop a).length = L.length - a := List.length_drop ..
        cases e : L.drop a with
        | nil => rw [e] at l1; simp at l1; omega
        | cons z r => exact ⟨z, r, rfl⟩
      by_cases hp : cutS z1 none (some (i : Int)) = spc i
      · by_cases he : z1 = elseL i
        · exact .inr (.inl ⟨ha, z1, r1, hd1, hp, he⟩)
        · exact .inr (.inr ⟨ha, z1, r1, hd1, by unfold inB; rw [decide_eq_true hp, decide_eq_true he]; rfl⟩)
      · exact .inl ⟨ha, z1, r1, hd1, hp⟩
    · exact .inl (by omega)
  have at_ : ∀ {z r}, L.drop a = z :: r → atI (L.map V.str) (a : Int) = some (.str z) ∧ z.length ≤ 900 ∧ z.length ≤ sizeLine := fun hd => by
    have ha := drop_head hd
    have zl := zL _ (List.mem_of_getElem? ha)
    exact ⟨atI_nat (by rw [List.getElem?_map, ha]; rfl), zl, Nat.le_of_lt (small1000 (by omega))⟩
  rcases cs with ha | ⟨ha, z, r, hd, hp⟩ | ⟨ha, z, r, hd, hp, hel⟩ | ⟨ha, z, r, hd, hin⟩
  case inr.inr.inr =>
    obtain ⟨atv, zl, lls⟩ := at_ hd
    obtain ⟨hp, hel⟩ := inB_true hin
    have hdr1 := drop_next hd
    have lr : r.length = L.length - (a + 1) := by rw [← hdr1, List.length_drop]
    refine ifT (decide_eq_true (by rw [e17]; omega)) ?_
    refine ⟨_, rfl, _, rfl, _, _, _, _, rfl, rfl, hL6, atv, _, rfl, _, rfl, _, rfl, lls, _, rfl, rfl, _, rfl, ?_⟩
    refine ifT (decide_eq_true (congrArg V.str hp)) ?_
    refine ⟨_, rfl, _, rfl, _, _, _, _, rfl, rfl, hL6, atv, _, rfl, _, _, rfl, rfl, ?_, rfl, _, rfl, ?_⟩
    · rw [← Str.length_append]
      exact Nat.le_of_lt (small1000 (by show (elseL i).length ≤ 1000; omega))
    refine ifT (by rw [show spc i ++ "else" = elseL i from rfl, decide_eq_false fun e => hel (V.str.inj e)]; rfl) ?_
    -- the kind
    refine ⟨_, rfl, _, rfl, _, _, _, _, rfl, rfl, hL6, atv, _, rfl, z, i, rfl, rfl, zl, by omega, fun H7 e7 => ?_⟩
    rw [hd] at hfin
    cases hs : headS i z with
    | none =>
      rw [show kindS i z = "no" by unfold kindS; rw [hs]]
      rw [fin_bad hin hs] at hfin
      refine ⟨_, rfl, rfl, _, rfl, ifT (decide_eq_true rfl) ?_⟩
      refine ⟨_, rfl, _, _, rfl, rfl, ?_⟩
      exact back H7 (e16.trans e7) (by rw [hfin]; unfold atL; rw [List.length_cons]; omega)
    | some s =>
      obtain ⟨kno, ktwo, kone⟩ := word_kinds s
      have bcs := bodies_cases s
      rw [show kindS i z = s.word by unfold kindS; rw [hs]]
      refine ⟨_, rfl, rfl, _, rfl, ifF (decide_eq_false fun k => kno (V.str.inj k)) ?_⟩
      refine ⟨_, rfl, (by show 2 ≤ sizeLine; decide), fun t nt => ?_⟩
      have e8 := e7.trans (smNew1 nt (.tup [.str "if", .str "same"]))
      refine ⟨t, _, rfl, .inr (SqT.of upd_same), rfl, rfl, _, rfl, ?_⟩
      rw [if_neg (by decide), in_two]
      by_cases hb2 : s.bodies.length = 2
      · refine ifT (decide_eq_true (ktwo.mpr hb2)) ?_
        refine ⟨_, rfl, .inl ⟨rfl, _, SqL.of (e8 _ _ hsa6)⟩, _, rfl, _, _, rfl, rfl, (by show 2 ≤ sizeLine; decide), fun b2 nb2 => ?_⟩
        have sb2 : b2 ≠ sa := (ne_of_none (e8 _ _ hsa6) nb2).symm
        have e20 := smNew1 nb2 (.lst [.int ((i : Int) + 2), .str "first"])
        refine ⟨sa, _, .ref b2, rfl, rfl, e20 _ _ (e8 _ _ hsa6), small1000 (by rw [List.length_append, List.length_map, its6.length]; show _ + 1 ≤ 1000; omega), ?_⟩
        refine ⟨_, rfl, _, _, rfl, rfl, ?_⟩
        refine ⟨T0 ++ [(i, qq)], i + 2, "first", a + 1, as0 ++ [b] ++ [b2], ?_, by omega, smOut (e16.trans (e8.trans e20)) nsa _, by rw [upd_same, List.map_append, List.map_append]; rfl, ?_, by omega, fun p hp => ?_, by rw [List.length_append]; show _ + 1 ≤ a + 1; omega, ?_, _, _, _, _, _, _, rfl⟩
        · rw [List.length_append]; show _ + (_ + 1) < _; omega
        · refine Paired.snoc ((Items.upd (Items.keep (e8.trans e20) (Paired.snoc its6 ⟨hb6, bs⟩)) _)) ⟨?_, sb2⟩
          rw [upd_ne sb2, upd_same]
          rfl
        · rcases List.mem_append.mp hp with z | z
          · have := hT p z; omega
          · rw [List.mem_singleton.mp z]; show i ≤ _; omega
        · rw [List.reverse_append, hdr1]
          show _ = fin L.length ((i + 2, _) :: (i, qq) :: T0.reverse) r
          rw [← fin_two hin hs hb2]
          exact hfin
      refine ifF (decide_eq_false fun k => hb2 (ktwo.mp k)) ?_
      refine ⟨_, rfl, rfl, _, rfl, ?_⟩
      by_cases hb1 : s.bodies.length = 1
      · refine ifT (decide_eq_true (congrArg V.str (kone.mpr hb1))) ?_
        refine ⟨_, rfl, .inl ⟨rfl, _, SqL.of (e8 _ _ hsa6)⟩, _, rfl, _, _, rfl, rfl, (by show 2 ≤ sizeLine; decide), fun b2 nb2 => ?_⟩
        have sb2 : b2 ≠ sa := (ne_of_none (e8 _ _ hsa6) nb2).symm
        have e20 := smNew1 nb2 (.lst [.int ((i : Int) + 2), .str "only"])
        refine ⟨sa, _, .ref b2, rfl, rfl, e20 _ _ (e8 _ _ hsa6), small1000 (by rw [List.length_append, List.length_map, its6.length]; show _ + 1 ≤ 1000; omega), ?_⟩
        refine ⟨_, rfl, _, _, rfl, rfl, ?_⟩
        refine ⟨T0 ++ [(i, qq)], i + 2, "only", a + 1, as0 ++ [b] ++ [b2], ?_, by omega, smOut (e16.trans (e8.trans e20)) nsa _, by rw [upd_same, List.map_append, List.map_append]; rfl, ?_, by omega, fun p hp => ?_, by rw [List.length_append]; show _ + 1 ≤ a + 1; omega, ?_, _, _, _, _, _, _, rfl⟩
        · rw [List.length_append]; show _ + (_ + 1) < _; omega
        · refine Paired.snoc ((Items.upd (Items.keep (e8.trans e20) (Paired.snoc its6 ⟨hb6, bs⟩)) _)) ⟨?_, sb2⟩
          rw [upd_ne sb2, upd_same]
          rfl
        · rcases List.mem_append.mp hp with z | z
          · have := hT p z; omega
          · rw [List.mem_singleton.mp z]; show i ≤ _; omega
        · rw [List.reverse_append, hdr1]
          show _ = fin L.length ((i + 2, _) :: (i, qq) :: T0.reverse) r
          rw [← fin_rep hin hs hb1]
          exact hfin
      refine ifF (decide_eq_false fun k => hb1 (kone.mp (V.str.inj k))) ?_
      have hb0 : s.bodies.length = 0 := by rcases bcs with h | ⟨_, h⟩ | ⟨_, _, h⟩ <;> rw [h] at hb1 hb2 ⊢ <;> first | rfl | exact absurd rfl hb1 | exact absurd rfl hb2
      refine ⟨_, rfl, _, _, rfl, rfl, ?_⟩
      exact ⟨T0, i, qq, a + 1, as0 ++ [b], by omega, by omega, e16.trans e8, by rw [List.map_append]; exact e8 _ _ hsa6, Items.keep e8 (Paired.snoc its6 ⟨hb6, bs⟩), by omega, (fun p hp => by have := hT p hp; omega), by omega, by rw [hdr1, ← fin_plain hin hs hb0]; exact hfin, _, _, _, _, _, _, rfl⟩
  case inl =>
    have hstop : BR i (L.drop a) = (some [], L.drop a) := BR_stop (.inl (List.drop_eq_nil_iff.mpr ha))
    refine ifF (decide_eq_false (by rw [e17]; omega)) ?_
    refine ⟨_, rfl, sa, _, rfl, .inl (SqL.of hsa6), rfl, _, rfl, ?_⟩
    by_cases hT0 : T0 = []
    · subst hT0
      obtain rfl : as0 = [] := by cases its6; rfl
      refine ifT (decide_eq_true rfl) ?_
      refine ⟨_, rfl, _, rfl, _, _, rfl, .inl hL6, _, _, rfl, rfl, _, rfl, ?_⟩
      rw [List.reverse_nil, fin_end (show BR i (L.drop a) = (some [], L.drop a) from hstop)] at hfin
      by_cases ha : a < L.length
      · refine ifT (decide_eq_true (by rw [e17]; omega)) ?_
        have ne : L.drop a ≠ [] := fun z => by have := List.drop_eq_nil_iff.mp z; omega
        rw [if_neg ne] at hfin
        refine ⟨_, rfl, _, _, rfl, rfl, ?_⟩
        exact back H6 e16 (by rw [hfin]; unfold atL; rw [List.length_drop]; omega)
      · refine ifF (decide_eq_false (by rw [e17]; omega)) ?_
        rw [if_pos (List.drop_eq_nil_iff.mpr (by omega))] at hfin
        exact back0 H6 e16 hfin
    have lT1 : 1 ≤ T0.length := List.length_pos_iff.mpr hT0
    have las := its6.length
    have hTr : T0.reverse ≠ [] := fun z => hT0 (List.reverse_eq_nil_iff.mp z)
    refine ifF (decide_eq_false fun z => by
      injection z with z
      rw [List.length_append, List.length_map] at z
      have z2 : (as0.length : Int) + 1 = 1 := z
      omega) ?_
    refine ⟨_, rfl, .inl ⟨rfl, _, SqL.of hsa6⟩, sa, _, .ref b, rfl, rfl, hsa6, ?_, ?_⟩
    · rw [List.getElem?_append_right (by rw [List.length_append]; show _ ≤ _ + 1 - 1; omega), List.length_append]
      show [V.ref b][(as0.map V.ref).length + 1 - 1 - (as0.map V.ref).length]? = _
      rw [Nat.add_sub_cancel, Nat.sub_self]
      rfl
    rw [show (as0.map V.ref ++ [b].map V.ref).dropLast = as0.map V.ref from List.dropLast_concat]
    obtain ⟨H8, eH8⟩ : ∃ H8, H8 = L2.upd H6 sa (.lst (as0.map V.ref)) := ⟨_, rfl⟩
    rw [← eH8]
    have e18 : Same H H8 := by rw [eH8]; exact smOut e16 nsa _
    have hsa8 : H8 sa = some (.lst (as0.map V.ref)) := by rw [eH8]; exact upd_same
    have its8 : Items H8 sa as0 T0 := by rw [eH8]; exact its6.upd _
    have hL8 := e18.seq hL
    clear eH8 hsa6 its6 hL6
    refine ⟨_, rfl, rfl, _, rfl, ?_⟩
    by_cases hq : qq = ("first" : Str)
    case neg =>
      refine ifF (decide_eq_false fun z => hq (V.str.inj z)) ?_
      rw [fin_pop hstop hTr hq] at hfin
      obtain ⟨T1, p, rfl⟩ : ∃ T1 p, T0 = T1 ++ [p] := ⟨_, _, (List.dropLast_concat_getLast hT0).symm⟩
      obtain ⟨pi, pq⟩ := p
      rw [List.reverse_append] at hfin
      rw [List.length_append] at lT lT1
      refine ⟨T1, pi, pq, a, as0, ?_, haL, e18, hsa8, its8, hT (pi, pq) (List.mem_append_right _ List.mem_cons_self), fun p hp => hT p (List.mem_append_left _ hp), by have : [(pi, pq)].length = 1 := rfl; omega, hfin, _, _, _, _, _, _, rfl⟩
      rw [List.length_append]
      show _ < _ + (_ + 1)
      omega
    refine ifT (decide_eq_true (congrArg V.str hq)) ?_
    subst hq
    rw [fin_first hstop hTr] at hfin
    -- the outer space
    refine ⟨⟨_, rfl⟩, _, rfl, _, _, rfl, rfl, _, rfl, by omega, by omega, ?_⟩
    rw [show (((i : Int) - 2).toNat) = i - 2 by omega]
    intro D2 nD2
    refine lc_opt (walk_range (lo := 0) (n := i - 2)) (fun (_ : Unit) y _ => y = .str " ") (fun _ => some ()) nD2 (small1000 (by omega)) (fun _ _ => trivial) (fun _ _ _ _ h _ => h) (fun _ _ _ _ _ h _ => h) ?_ ?_
    · rintro j y H9 H10 N hj e ⟨rfl, rfl⟩ hk _
      exact ⟨rfl, yesI (hk _ _ () rfl (Same.refl _) rfl)⟩
    intro H9 ys9 e9 hD9 hp9
    rw [paired_const hp9, range_some, List.length_map, List.length_range, show List.replicate (i - 2) (V.str " ") = (List.replicate (i - 2) (" " : Str)).map V.str by rw [List.map_replicate]] at hD9
    refine ⟨_, D2, _, rfl, rfl, .inl (SqL.of hD9), (by rw [blanks_sum, List.length_replicate]; show (i - 2) + (i - 2) * ("" : Str).length ≤ _; rw [show ("" : Str).length = 0 by decide +kernel]; omega), ?_⟩
    rw [join_blanks]
    have hL9 := e9.seq hL8
    have e19 := e18.trans e9
    have hsa9 := e9 _ _ hsa8
    have its9 := its8.keep e9
    have le2 := else_len (i - 2)
    refine ⟨_, rfl, _, rfl, _, _, rfl, .inl hL9, _, _, rfl, rfl, _, rfl, ?_⟩
    by_cases ha : L.length ≤ a
    · refine ifT (decide_eq_true (by rw [e17]; omega)) (ifT rfl ?_)
      have hd0 : L.drop a = [] := List.drop_eq_nil_iff.mpr ha
      rw [hd0] at hfin
      refine ⟨_, rfl, _, _, rfl, rfl, ?_⟩
      exact back H9 e19 (by rw [hfin]; show L.length - 0 + 1 = a + 1; omega)
    refine ifF (decide_eq_false (by rw [e17]; omega)) ?_
    obtain ⟨z1, r1, hd1⟩ : ∃ z1 r1, L.drop a = z1 :: r1 := by
      have l1 : (L.drop a).length = L.length - a := List.length_drop ..
      cases e : L.drop a with
      | nil => rw [e] at l1; simp at l1; omega
      | cons z r => exact ⟨z, r, rfl⟩
    have hatE := drop_head hd1
    have hdB := drop_next hd1
    have lr1 : r1.length = L.length - (a + 1) := by rw [← hdB, List.length_drop]
    rw [hd1, elseR_cons] at hfin
    refine ⟨_, rfl, _, rfl, _, _, _, _, rfl, rfl, hL9, atI_nat (by rw [List.getElem?_map, hatE]; rfl), _, rfl, _, _, rfl, rfl, ?_, rfl, _, rfl, ?_⟩
    · rw [← Str.length_append]
      exact Nat.le_of_lt (small1000 (by show (elseL (i - 2)).length ≤ 1000; omega))
    by_cases he : z1 = elseL (i - 2)
    case neg =>
      rw [if_neg he] at hfin
      refine ifT (by rw [show spc (i - 2) ++ "else" = elseL (i - 2) from rfl, decide_eq_false fun e => he (V.str.inj e)]; rfl) ?_
      refine ⟨_, rfl, _, _, rfl, rfl, ?_⟩
      exact back H9 e19 (by rw [hfin]; unfold atL; rw [List.length_cons]; omega)
    refine ifF (by rw [show spc (i - 2) ++ "else" = elseL (i - 2) from rfl, decide_eq_true (congrArg V.str he)]; rfl) ?_
    rw [if_pos he] at hfin
    refine ⟨_, rfl, _, _, rfl, rfl, ?_⟩
    refine ⟨_, rfl, .inl ⟨rfl, _, SqL.of hsa9⟩, _, rfl, (by show 2 ≤ sizeLine; decide), fun b2 nb2 => ?_⟩
    have sb2 : b2 ≠ sa := (ne_of_none hsa9 nb2).symm
    have e20 := smNew1 nb2 (.lst [.int (i : Int), .str "second"])
    refine ⟨sa, _, .ref b2, rfl, rfl, e20 _ _ hsa9, small1000 (by rw [List.length_map]; omega), ?_⟩
    refine ⟨T0, i, "second", a + 1, as0 ++ [b2], by omega, by omega, smOut (e19.trans e20) nsa _, by rw [upd_same, List.map_append]; rfl, ?_, by omega, (fun p hp => by have := hT p hp; omega), by omega, by rw [hdB]; exact hfin, _, _, _, _, _, _, rfl⟩
    exact Paired.snoc ((its9.keep e20).upd _) ⟨by rw [upd_ne sb2]; exact upd_same, sb2⟩
  case inr.inl =>
    have hstop : BR i (L.drop a) = (some [], L.drop a) := BR_stop (.inr ⟨z, r, hd, by unfold inB; rw [decide_eq_false hp]; rfl⟩)
    obtain ⟨atv, zl, lls⟩ := at_ hd
    refine ifT (decide_eq_true (by rw [e17]; omega)) ?_
    refine ⟨_, rfl, _, rfl, _, _, _, _, rfl, rfl, hL6, atv, _, rfl, _, rfl, _, rfl, lls, _, rfl, rfl, _, rfl, ?_⟩
    refine ifF (decide_eq_false fun k => hp (V.str.inj k)) ?_
    clear hd hp atv zl lls
    refine ⟨_, rfl, sa, _, rfl, .inl (SqL.of hsa6), rfl, _, rfl, ?_⟩
    by_cases hT0 : T0 = []
    · subst hT0
      obtain rfl : as0 = [] := by cases its6; rfl
      refine ifT (decide_eq_true rfl) ?_
      refine ⟨_, rfl, _, rfl, _, _, rfl, .inl hL6, _, _, rfl, rfl, _, rfl, ?_⟩
      rw [List.reverse_nil, fin_end (show BR i (L.drop a) = (some [], L.drop a) from hstop)] at hfin
      by_cases ha : a < L.length
      · refine ifT (decide_eq_true (by rw [e17]; omega)) ?_
        have ne : L.drop a ≠ [] := fun z => by have := List.drop_eq_nil_iff.mp z; omega
        rw [if_neg ne] at hfin
        refine ⟨_, rfl, _, _, rfl, rfl, ?_⟩
        exact back H6 e16 (by rw [hfin]; unfold atL; rw [List.length_drop]; omega)
      · refine ifF (decide_eq_false (by rw [e17]; omega)) ?_
        rw [if_pos (List.drop_eq_nil_iff.mpr (by omega))] at hfin
        exact back0 H6 e16 hfin
    have lT1 : 1 ≤ T0.length := List.length_pos_iff.mpr hT0
    have las := its6.length
    have hTr : T0.reverse ≠ [] := fun z => hT0 (List.reverse_eq_nil_iff.mp z)
    refine ifF (decide_eq_false fun z => by
      injection z with z
      rw [List.length_append, List.length_map] at z
      have z2 : (as0.length : Int) + 1 = 1 := z
      omega) ?_
    refine ⟨_, rfl, .inl ⟨rfl, _, SqL.of hsa6⟩, sa, _, .ref b, rfl, rfl, hsa6, ?_, ?_⟩
    · rw [List.getElem?_append_right (by rw [List.length_append]; show _ ≤ _ + 1 - 1; omega), List.length_append]
      show [V.ref b][(as0.map V.ref).length + 1 - 1 - (as0.map V.ref).length]? = _
      rw [Nat.add_sub_cancel, Nat.sub_self]
      rfl
    rw [show (as0.map V.ref ++ [b].map V.ref).dropLast = as0.map V.ref from List.dropLast_concat]
    obtain ⟨H8, eH8⟩ : ∃ H8, H8 = L2.upd H6 sa (.lst (as0.map V.ref)) := ⟨_, rfl⟩
    rw [← eH8]
    have e18 : Same H H8 := by rw [eH8]; exact smOut e16 nsa _
    have hsa8 : H8 sa = some (.lst (as0.map V.ref)) := by rw [eH8]; exact upd_same
    have its8 : Items H8 sa as0 T0 := by rw [eH8]; exact its6.upd _
    have hL8 := e18.seq hL
    clear eH8 hsa6 its6 hL6
    refine ⟨_, rfl, rfl, _, rfl, ?_⟩
    by_cases hq : qq = ("first" : Str)
    case neg =>
      refine ifF (decide_eq_false fun z => hq (V.str.inj z)) ?_
      rw [fin_pop hstop hTr hq] at hfin
      obtain ⟨T1, p, rfl⟩ : ∃ T1 p, T0 = T1 ++ [p] := ⟨_, _, (List.dropLast_concat_getLast hT0).symm⟩
      obtain ⟨pi, pq⟩ := p
      rw [List.reverse_append] at hfin
      rw [List.length_append] at lT lT1
      refine ⟨T1, pi, pq, a, as0, ?_, haL, e18, hsa8, its8, hT (pi, pq) (List.mem_append_right _ List.mem_cons_self), fun p hp => hT p (List.mem_append_left _ hp), by have : [(pi, pq)].length = 1 := rfl; omega, hfin, _, _, _, _, _, _, rfl⟩
      rw [List.length_append]
      show _ < _ + (_ + 1)
      omega
    refine ifT (decide_eq_true (congrArg V.str hq)) ?_
    subst hq
    rw [fin_first hstop hTr] at hfin
    -- the outer space
    refine ⟨⟨_, rfl⟩, _, rfl, _, _, rfl, rfl, _, rfl, by omega, by omega, ?_⟩
    rw [show (((i : Int) - 2).toNat) = i - 2 by omega]
    intro D2 nD2
    refine lc_opt (walk_range (lo := 0) (n := i - 2)) (fun (_ : Unit) y _ => y = .str " ") (fun _ => some ()) nD2 (small1000 (by omega)) (fun _ _ => trivial) (fun _ _ _ _ h _ => h) (fun _ _ _ _ _ h _ => h) ?_ ?_
    · rintro j y H9 H10 N hj e ⟨rfl, rfl⟩ hk _
      exact ⟨rfl, yesI (hk _ _ () rfl (Same.refl _) rfl)⟩
    intro H9 ys9 e9 hD9 hp9
    rw [paired_const hp9, range_some, List.length_map, List.length_range, show List.replicate (i - 2) (V.str " ") = (List.replicate (i - 2) (" " : Str)).map V.str by rw [List.map_replicate]] at hD9
    refine ⟨_, D2, _, rfl, rfl, .inl (SqL.of hD9), (by rw [blanks_sum, List.length_replicate]; show (i - 2) + (i - 2) * ("" : Str).length ≤ _; rw [show ("" : Str).length = 0 by decide +kernel]; omega), ?_⟩
    rw [join_blanks]
    have hL9 := e9.seq hL8
    have e19 := e18.trans e9
    have hsa9 := e9 _ _ hsa8
    have its9 := its8.keep e9
    have le2 := else_len (i - 2)
    refine ⟨_, rfl, _, rfl, _, _, rfl, .inl hL9, _, _, rfl, rfl, _, rfl, ?_⟩
    by_cases ha : L.length ≤ a
    · refine ifT (decide_eq_true (by rw [e17]; omega)) (ifT rfl ?_)
      have hd0 : L.drop a = [] := List.drop_eq_nil_iff.mpr ha
      rw [hd0] at hfin
      refine ⟨_, rfl, _, _, rfl, rfl, ?_⟩
      exact back H9 e19 (by rw [hfin]; show L.length - 0 + 1 = a + 1; omega)
    refine ifF (decide_eq_false (by rw [e17]; omega)) ?_
    obtain ⟨z1, r1, hd1⟩ : ∃ z1 r1, L.drop a = z1 :: r1 := by
      have l1 : (L.drop a).length = L.length - a := List.length_drop ..
      cases e : L.drop a with
      | nil => rw [e] at l1; simp at l1; omega
      | cons z r => exact ⟨z, r, rfl⟩
    have hatE := drop_head hd1
    have hdB := drop_next hd1
    have lr1 : r1.length = L.length - (a + 1) := by rw [← hdB, List.length_drop]
    rw [hd1, elseR_cons] at hfin
    refine ⟨_, rfl, _, rfl, _, _, _, _, rfl, rfl, hL9, atI_nat (by rw [List.getElem?_map, hatE]; rfl), _, rfl, _, _, rfl, rfl, ?_, rfl, _, rfl, ?_⟩
    · rw [← Str.length_append]
      exact Nat.le_of_lt (small1000 (by show (elseL (i - 2)).length ≤ 1000; omega))
    by_cases he : z1 = elseL (i - 2)
    case neg =>
      rw [if_neg he] at hfin
      refine ifT (by rw [show spc (i - 2) ++ "else" = elseL (i - 2) from rfl, decide_eq_false fun e => he (V.str.inj e)]; rfl) ?_
      refine ⟨_, rfl, _, _, rfl, rfl, ?_⟩
      exact back H9 e19 (by rw [hfin]; unfold atL; rw [List.length_cons]; omega)
    refine ifF (by rw [show spc (i - 2) ++ "else" = elseL (i - 2) from rfl, decide_eq_true (congrArg V.str he)]; rfl) ?_
    rw [if_pos he] at hfin
    refine ⟨_, rfl, _, _, rfl, rfl, ?_⟩
    refine ⟨_, rfl, .inl ⟨rfl, _, SqL.of hsa9⟩, _, rfl, (by show 2 ≤ sizeLine; decide), fun b2 nb2 => ?_⟩
    have sb2 : b2 ≠ sa := (ne_of_none hsa9 nb2).symm
    have e20 := smNew1 nb2 (.lst [.int (i : Int), .str "second"])
    refine ⟨sa, _, .ref b2, rfl, rfl, e20 _ _ hsa9, small1000 (by rw [List.length_map]; omega), ?_⟩
    refine ⟨T0, i, "second", a + 1, as0 ++ [b2], by omega, by omega, smOut (e19.trans e20) nsa _, by rw [upd_same, List.map_append]; rfl, ?_, by omega, (fun p hp => by have := hT p hp; omega), by omega, by rw [hdB]; exact hfin, _, _, _, _, _, _, rfl⟩
    exact Paired.snoc ((its9.keep e20).upd _) ⟨by rw [upd_ne sb2]; exact upd_same, sb2⟩
  case inr.inr.inl =>
    have hstop : BR i (L.drop a) = (some [], L.drop a) := BR_stop (.inr ⟨z, r, hd, by unfold inB; rw [show decide (z ≠ elseL i) = false from decide_eq_false (fun k => k hel), Bool.and_false]⟩)
    obtain ⟨atv, zl, lls⟩ := at_ hd
    refine ifT (decide_eq_true (by rw [e17]; omega)) ?_
    refine ⟨_, rfl, _, rfl, _, _, _, _, rfl, rfl, hL6, atv, _, rfl, _, rfl, _, rfl, lls, _, rfl, rfl, _, rfl, ?_⟩
    refine ifT (decide_eq_true (congrArg V.str hp)) ?_
    refine ⟨_, rfl, _, rfl, _, _, _, _, rfl, rfl, hL6, atv, _, rfl, _, _, rfl, rfl, ?_, rfl, _, rfl, ?_⟩
    · rw [← Str.length_append]
      exact Nat.le_of_lt (small1000 (by show (elseL i).length ≤ 1000; omega))
    refine ifF (by rw [show spc i ++ "else" = elseL i from rfl, decide_eq_true (congrArg V.str hel)]; rfl) ?_
    clear hd hp atv zl lls hel
    refine ⟨_, rfl, sa, _, rfl, .inl (SqL.of hsa6), rfl, _, rfl, ?_⟩
    by_cases hT0 : T0 = []
    · subst hT0
      obtain rfl : as0 = [] := by cases its6; rfl
      refine ifT (decide_eq_true rfl) ?_
      refine ⟨_, rfl, _, rfl, _, _, rfl, .inl hL6, _, _, rfl, rfl, _, rfl, ?_⟩
      rw [List.reverse_nil, fin_end (show BR i (L.drop a) = (some [], L.drop a) from hstop)] at hfin
      by_cases ha : a < L.length
      · refine ifT (decide_eq_true (by rw [e17]; omega)) ?_
        have ne : L.drop a ≠ [] := fun z => by have := List.drop_eq_nil_iff.mp z; omega
        rw [if_neg ne] at hfin
        refine ⟨_, rfl, _, _, rfl, rfl, ?_⟩
        exact back H6 e16 (by rw [hfin]; unfold atL; rw [List.length_drop]; omega)
      · refine ifF (decide_eq_false (by rw [e17]; omega)) ?_
        rw [if_pos (List.drop_eq_nil_iff.mpr (by omega))] at hfin
        exact back0 H6 e16 hfin
    have lT1 : 1 ≤ T0.length := List.length_pos_iff.mpr hT0
    have las := its6.length
    have hTr : T0.reverse ≠ [] := fun z => hT0 (List.reverse_eq_nil_iff.mp z)
    refine ifF (decide_eq_false fun z => by
      injection z with z
      rw [List.length_append, List.length_map] at z
      have z2 : (as0.length : Int) + 1 = 1 := z
      omega) ?_
    refine ⟨_, rfl, .inl ⟨rfl, _, SqL.of hsa6⟩, sa, _, .ref b, rfl, rfl, hsa6, ?_, ?_⟩
    · rw [List.getElem?_append_right (by rw [List.length_append]; show _ ≤ _ + 1 - 1; omega), List.length_append]
      show [V.ref b][(as0.map V.ref).length + 1 - 1 - (as0.map V.ref).length]? = _
      rw [Nat.add_sub_cancel, Nat.sub_self]
      rfl
    rw [show (as0.map V.ref ++ [b].map V.ref).dropLast = as0.map V.ref from List.dropLast_concat]
    obtain ⟨H8, eH8⟩ : ∃ H8, H8 = L2.upd H6 sa (.lst (as0.map V.ref)) := ⟨_, rfl⟩
    rw [← eH8]
    have e18 : Same H H8 := by rw [eH8]; exact smOut e16 nsa _
    have hsa8 : H8 sa = some (.lst (as0.map V.ref)) := by rw [eH8]; exact upd_same
    have its8 : Items H8 sa as0 T0 := by rw [eH8]; exact its6.upd _
    have hL8 := e18.seq hL
    clear eH8 hsa6 its6 hL6
    refine ⟨_, rfl, rfl, _, rfl, ?_⟩
    by_cases hq : qq = ("first" : Str)
    case neg =>
      refine ifF (decide_eq_false fun z => hq (V.str.inj z)) ?_
      rw [fin_pop hstop hTr hq] at hfin
      obtain ⟨T1, p, rfl⟩ : ∃ T1 p, T0 = T1 ++ [p] := ⟨_, _, (List.dropLast_concat_getLast hT0).symm⟩
      obtain ⟨pi, pq⟩ := p
      rw [List.reverse_append] at hfin
      rw [List.length_append] at lT lT1
      refine ⟨T1, pi, pq, a, as0, ?_, haL, e18, hsa8, its8, hT (pi, pq) (List.mem_append_right _ List.mem_cons_self), fun p hp => hT p (List.mem_append_left _ hp), by have : [(pi, pq)].length = 1 := rfl; omega, hfin, _, _, _, _, _, _, rfl⟩
      rw [List.length_append]
      show _ < _ + (_ + 1)
      omega
    refine ifT (decide_eq_true (congrArg V.str hq)) ?_
    subst hq
    rw [fin_first hstop hTr] at hfin
    -- the outer space
    refine ⟨⟨_, rfl⟩, _, rfl, _, _, rfl, rfl, _, rfl, by omega, by omega, ?_⟩
    rw [show (((i : Int) - 2).toNat) = i - 2 by omega]
    intro D2 nD2
    refine lc_opt (walk_range (lo := 0) (n := i - 2)) (fun (_ : Unit) y _ => y = .str " ") (fun _ => some ()) nD2 (small1000 (by omega)) (fun _ _ => trivial) (fun _ _ _ _ h _ => h) (fun _ _ _ _ _ h _ => h) ?_ ?_
    · rintro j y H9 H10 N hj e ⟨rfl, rfl⟩ hk _
      exact ⟨rfl, yesI (hk _ _ () rfl (Same.refl _) rfl)⟩
    intro H9 ys9 e9 hD9 hp9
    rw [paired_const hp9, range_some, List.length_map, List.length_range, show List.replicate (i - 2) (V.str " ") = (List.replicate (i - 2) (" " : Str)).map V.str by rw [List.map_replicate]] at hD9
    refine ⟨_, D2, _, rfl, rfl, .inl (SqL.of hD9), (by rw [blanks_sum, List.length_replicate]; show (i - 2) + (i - 2) * ("" : Str).length ≤ _; rw [show ("" : Str).length = 0 by decide +kernel]; omega), ?_⟩
    rw [join_blanks]
    have hL9 := e9.seq hL8
    have e19 := e18.trans e9
    have hsa9 := e9 _ _ hsa8
    have its9 := its8.keep e9
    have le2 := else_len (i - 2)
    refine ⟨_, rfl, _, rfl, _, _, rfl, .inl hL9, _, _, rfl, rfl, _, rfl, ?_⟩
    by_cases ha : L.length ≤ a
    · refine ifT (decide_eq_true (by rw [e17]; omega)) (ifT rfl ?_)
      have hd0 : L.drop a = [] := List.drop_eq_nil_iff.mpr ha
      rw [hd0] at hfin
      refine ⟨_, rfl, _, _, rfl, rfl, ?_⟩
      exact back H9 e19 (by rw [hfin]; show L.length - 0 + 1 = a + 1; omega)
    refine ifF (decide_eq_false (by rw [e17]; omega)) ?_
    obtain ⟨z1, r1, hd1⟩ : ∃ z1 r1, L.drop a = z1 :: r1 := by
      have l1 : (L.drop a).length = L.length - a := List.length_drop ..
      cases e : L.drop a with
      | nil => rw [e] at l1; simp at l1; omega
      | cons z r => exact ⟨z, r, rfl⟩
    have hatE := drop_head hd1
    have hdB := drop_next hd1
    have lr1 : r1.length = L.length - (a + 1) := by rw [← hdB, List.length_drop]
    rw [hd1, elseR_cons] at hfin
    refine ⟨_, rfl, _, rfl, _, _, _, _, rfl, rfl, hL9, atI_nat (by rw [List.getElem?_map, hatE]; rfl), _, rfl, _, _, rfl, rfl, ?_, rfl, _, rfl, ?_⟩
    · rw [← Str.length_append]
      exact Nat.le_of_lt (small1000 (by show (elseL (i - 2)).length ≤ 1000; omega))
    by_cases he : z1 = elseL (i - 2)
    case neg =>
      rw [if_neg he] at hfin
      refine ifT (by rw [show spc (i - 2) ++ "else" = elseL (i - 2) from rfl, decide_eq_false fun e => he (V.str.inj e)]; rfl) ?_
      refine ⟨_, rfl, _, _, rfl, rfl, ?_⟩
      exact back H9 e19 (by rw [hfin]; unfold atL; rw [List.length_cons]; omega)
    refine ifF (by rw [show spc (i - 2) ++ "else" = elseL (i - 2) from rfl, decide_eq_true (congrArg V.str he)]; rfl) ?_
    rw [if_pos he] at hfin
    refine ⟨_, rfl, _, _, rfl, rfl, ?_⟩
    refine ⟨_, rfl, .inl ⟨rfl, _, SqL.of hsa9⟩, _, rfl, (by show 2 ≤ sizeLine; decide), fun b2 nb2 => ?_⟩
    have sb2 : b2 ≠ sa := (ne_of_none hsa9 nb2).symm
    have e20 := smNew1 nb2 (.lst [.int (i : Int), .str "second"])
    refine ⟨sa, _, .ref b2, rfl, rfl, e20 _ _ hsa9, small1000 (by rw [List.length_map]; omega), ?_⟩
    refine ⟨T0, i, "second", a + 1, as0 ++ [b2], by omega, by omega, smOut (e19.trans e20) nsa _, by rw [upd_same, List.map_append]; rfl, ?_, by omega, (fun p hp => by have := hT p hp; omega), by omega, by rw [hdB]; exact hfin, _, _, _, _, _, _, rfl⟩
    exact Paired.snoc ((its9.keep e20).upd _) ⟨by rw [upd_ne sb2]; exact upd_same, sb2⟩
end
end RM

set_option Elab.async false
set_option linter.all false
set_option maxRecDepth 100000
set_option maxHeartbeats 2000000
namespace RM
open PySem PySem.Spec PyProof.Rows L2
/-! ### words of a line: sizes, no line feed -/
theorem joinL_len_eq : ∀ (a : List Nat) (r : List (List Nat)), (TL.joinL [32] (a :: r)).length + 1 = ((a :: r).map List.length).sum + (a :: r).length
  | a, [] => by show a.length + 1 = _; simp
  | a, b :: r => by
    have ih := joinL_len_eq b r
    show (a ++ ([32] ++ TL.joinL [32] (b :: r))).length + 1 = _
    rw [List.length_append, List.length_append, List.map_cons, List.sum_cons, List.length_cons (as := b :: r)]
    show a.length + (1 + _) + 1 = _
    omega
theorem joinL_mem {c : Nat} : ∀ ps : List (List Nat), c ∈ TL.joinL [32] ps → c = 32 ∨ ∃ p ∈ ps, c ∈ p
  | [], h => by simp [TL.joinL] at h
  | [a], h => .inr ⟨a, List.mem_cons_self, h⟩
  | a :: b :: r, h => by
    have h : c ∈ a ++ ([32] ++ TL.joinL [32] (b :: r)) := h
    rcases List.mem_append.mp h with h | h
    · exact .inr ⟨a, List.mem_cons_self, h⟩
    · rcases List.mem_append.mp h with h | h
      · exact .inl (List.mem_singleton.mp h)
      · rcases joinL_mem (b :: r) h with h | ⟨p, hp, h⟩
        · exact .inl h
        · exact .inr ⟨p, List.mem_cons_of_mem _ hp, h⟩
def lensum (ws : List Str) : Nat := (ws.map (·.length)).sum
def okWs (b : Nat) (ws : List Str) : Prop := (∀ w ∈ ws, 10 ∉ cl w) ∧ lensum ws + ws.length ≤ b
theorem cl_join (ws : List Str) : cl (Txt.join " " ws) = TL.joinL [32] (ws.map TL.tl) := by
  show TL.tl _ = _
  rw [TL.join_eq, TL.tl_join, blank_one']
theorem okWs_join {b : Nat} {ws : List Str} (h : okWs b ws) : 10 ∉ cl (Txt.join " " ws) ∧ (Txt.join " " ws).length ≤ b := by
  refine ⟨fun z => ?_, ?_⟩
  · rw [cl_join] at z
    rcases joinL_mem _ z with e | ⟨p, hp, hc⟩
    · exact absurd e (by decide)
    · obtain ⟨w, hw, rfl⟩ := List.mem_map.mp hp
      exact h.1 w hw hc
  · have := join_len ws
    have h2 := h.2
    unfold lensum at h2
    omega
theorem lensum_tl (ws : List Str) : ((ws.map TL.tl).map List.length).sum = lensum ws := by
  rw [List.map_map]
  unfold lensum
  exact congrArg List.sum (List.map_congr_left fun z _ => cl_len z)
theorem okWs_split {z : Str} (h : 10 ∉ cl z) : okWs (z.length + 1) (Txt.split z " ") := by
  refine ⟨fun w hw hc => h ((split_part hw).2 10 hc), ?_⟩
  have j : cl z = TL.joinL [32] ((Txt.split z " ").map TL.tl) := by
    rw [← blank_one', ← TL.tl_join, PySem.StrLaws.join_split]
  have ne := split_ne z
  have l := lensum_tl (Txt.split z " ")
  have len : ((Txt.split z " ").map TL.tl).length = (Txt.split z " ").length := List.length_map ..
  cases e : (Txt.split z " ").map TL.tl with
  | nil => exact absurd (List.map_eq_nil_iff.mp e) ne
  | cons a r =>
    have k := joinL_len_eq a r
    rw [← e, ← j, cl_len, l, len] at k
    omega
theorem lensum_set : ∀ (ws : List Str) (i : Nat) (w : Str), lensum (ws.set i w) ≤ lensum ws + w.length
  | [], i, w => by simp [lensum]
  | a :: r, 0, w => by show (w.length + (r.map _).sum) ≤ (a.length + (r.map _).sum) + w.length; omega
  | a :: r, i + 1, w => by
    have := lensum_set r i w
    show a.length + lensum (r.set i w) ≤ (a.length + lensum r) + w.length
    omega
theorem lensum_erase : ∀ (ws : List Str) (i : Nat), lensum (ws.eraseIdx i) ≤ lensum ws
  | [], i => by simp [lensum]
  | a :: r, 0 => by show (r.map _).sum ≤ a.length + (r.map _).sum; omega
  | a :: r, i + 1 => by
    have := lensum_erase r i
    show a.length + lensum (r.eraseIdx i) ≤ a.length + lensum r
    omega
theorem lensum_app (a b : List Str) : lensum (a ++ b) = lensum a + lensum b := by unfold lensum; rw [List.map_append, List.sum_append]
theorem okWs_set {b : Nat} {ws : List Str} (h : okWs b ws) (i : Nat) {w : Str} (hw : 10 ∉ cl w) : okWs (b + w.length) (ws.set i w) := by
  refine ⟨fun v hv => ?_, ?_⟩
  · rcases List.mem_or_eq_of_mem_set hv with h2 | rfl
    · exact h.1 v h2
    · exact hw
  · have := lensum_set ws i w
    have h2 := h.2
    rw [List.length_set]
    omega
theorem okWs_erase {b : Nat} {ws : List Str} (h : okWs b ws) (i : Nat) : okWs b (ws.eraseIdx i) := by
  refine ⟨fun v hv => h.1 v (List.mem_of_mem_eraseIdx hv), ?_⟩
  have := lensum_erase ws i
  have h2 := h.2
  have := List.length_eraseIdx_le (l := ws) (i := i)
  omega
theorem okWs_ins {b : Nat} {ws : List Str} (h : okWs b ws) (i : Nat) {w : Str} (hw : 10 ∉ cl w) : okWs (b + w.length + 1) (ws.take i ++ [w] ++ ws.drop i) := by
  refine ⟨fun v hv => ?_, ?_⟩
  · rcases List.mem_append.mp hv with hv | hv
    · rcases List.mem_append.mp hv with hv | hv
      · exact h.1 v (List.mem_of_mem_take hv)
      · rw [List.mem_singleton] at hv; subst hv; exact hw
    · exact h.1 v (List.mem_of_mem_drop hv)
  · have e : lensum (ws.take i) + lensum (ws.drop i) = lensum ws := by rw [← lensum_app, List.take_append_drop]
    have e2 : (ws.take i).length + (ws.drop i).length = ws.length := by rw [← List.length_append, List.take_append_drop]
    have h2 := h.2
    rw [lensum_app, lensum_app, List.length_append, List.length_append]
    have : lensum [w] = w.length := by simp [lensum]
    show _ + ((ws.take i).length + 1 + _) ≤ _
    omega
theorem okWs_app {b : Nat} {ws : List Str} (h : okWs b ws) {w : Str} (hw : 10 ∉ cl w) : okWs (b + w.length + 1) (ws ++ [w]) := by
  refine ⟨fun v hv => ?_, ?_⟩
  · rcases List.mem_append.mp hv with hv | hv
    · exact h.1 v hv
    · rw [List.mem_singleton] at hv; subst hv; exact hw
  · have h2 := h.2
    rw [lensum_app, List.length_append]
    have : lensum [w] = w.length := by simp [lensum]
    show _ + (ws.length + 1) ≤ _
    omega
theorem map_erase {α β : Type} (f : α → β) : ∀ (l : List α) (i : Nat), (l.map f).eraseIdx i = (l.eraseIdx i).map f
  | [], i => by simp
  | a :: r, 0 => rfl
  | a :: r, i + 1 => by
    show f a :: (r.map f).eraseIdx i = f a :: (r.eraseIdx i).map f
    rw [map_erase f r i]
theorem ixN_n {n j : Nat} (hj : j < n) : ixN n (j : Int) = some j := by unfold ixN; rw [if_pos (by omega), if_pos (by omega), Int.toNat_natCast]
end RM

set_option Elab.async false
set_option linter.all false
set_option maxRecDepth 100000
set_option maxHeartbeats 2000000
namespace RM
open PySem PySem.Spec PyProof.Rows L2
/-! ### the draws: a list of four at d, apart from all else -/
def Hd4 (H : Hp) (d sc : Addr) : Prop := ∃ (p q r : Int), H d = some (.lst [.ref sc, .int p, .int q, .int r]) ∧ 0 ≤ p
def Scr (K : PySem.W.Frag) (H : Hp) (sc : Addr) : Prop := ∃ xs : List Int, SqL K H sc (xs.map V.int)
def DrawAt (K : PySem.W.Frag) (H : Hp) (d sc : Addr) : Prop := Hd4 H d sc ∧ Scr K (del H d) sc
/-- all but d is kept -/
def But (d : Addr) (H H' : Hp) : Prop := Same (del H d) (del H' d)
theorem But.refl (d : Addr) (H : Hp) : But d H H := Same.refl _
theorem But.trans {d : Addr} {H H1 H2 : Hp} (a : But d H H1) (b : But d H1 H2) : But d H H2 := Same.trans a b
theorem del_sm (H : Hp) (d : Addr) : Same (del H d) H := fun b u z => by
  by_cases hb : b = d
  · rw [hb, del_same] at z
    cases z
  · rwa [del_ne hb] at z
theorem but_upd (d : Addr) (H : Hp) (o : HO) : But d H (upd H d o) := fun b u z => by
  by_cases hb : b = d
  · rw [hb, del_same] at z
    cases z
  · rw [del_ne hb] at z ⊢
    rw [upd_ne hb]
    exact z
theorem but_sm {d : Addr} {H H' : Hp} (e : Same H H') : But d H H' := fun b u z => by
  by_cases hb : b = d
  · rw [hb, del_same] at z
    cases z
  · rw [del_ne hb] at z ⊢
    exact e _ _ z
theorem But.get {d b : Addr} {H H' : Hp} {o : HO} (e : But d H H') (hb : b ≠ d) (h : H b = some o) : H' b = some o := by
  have := e b o (by rw [del_ne hb]; exact h)
  rwa [del_ne hb] at this
theorem Scr.keep {K : PySem.W.Frag} {H H' : Hp} {sc : Addr} (e : Same H H') (h : Scr K H sc) : Scr K H' sc := let ⟨xs, h⟩ := h; ⟨xs, e.seq h⟩
theorem Hd4.keep {H H' : Hp} {d sc : Addr} (e : Same H H') (h : Hd4 H d sc) : Hd4 H' d sc := let ⟨p, q, r, h, z⟩ := h; ⟨p, q, r, e _ _ h, z⟩
theorem DrawAt.keep {K : PySem.W.Frag} {H H' : Hp} {d sc : Addr} (e : Same H H') (h : DrawAt K H d sc) : DrawAt K H' d sc := ⟨h.1.keep e, h.2.keep (but_sm e)⟩
theorem DrawAt.set {K : PySem.W.Frag} {H : Hp} {d sc : Addr} {xs : List Int} (h2 : SqL K (del H d) sc (xs.map V.int)) {p : Int} (h3 : 0 ≤ p) (q r : Int) : DrawAt K (upd H d (.lst [.ref sc, .int p, .int q, .int r])) d sc :=
  ⟨⟨p, q, r, upd_same, h3⟩, xs, (but_upd d H _).seq h2⟩
theorem Hd4.ne {H : Hp} {d sc : Addr} (h : Hd4 H d sc) : H d ≠ none := by
  obtain ⟨p, q, r, h, _⟩ := h
  rw [h]
  exact fun z => nomatch z
/-! ### what is new since H0 -/
def nw (H0 H : Hp) : Hp := fun b => match H0 b with
  | none => H b
  | some _ => none
theorem nw_new {H0 H : Hp} {b : Addr} (h : H0 b = none) : nw H0 H b = H b := by
  unfold nw
  rw [h]
theorem nw_some {H0 H : Hp} {b : Addr} {u : HO} (h : nw H0 H b = some u) : H0 b = none ∧ H b = some u := by
  unfold nw at h
  cases e : H0 b with
  | none => rw [e] at h; exact ⟨rfl, h⟩
  | some v => rw [e] at h; cases h
theorem nw_sm (H0 H : Hp) : Same (nw H0 H) H := fun b u z => (nw_some z).2
/-- all of H0 stands in H -/
def Gro (H0 H : Hp) : Prop := ∀ b, H b = none → H0 b = none
theorem Gro.refl (H : Hp) : Gro H H := fun _ h => h
theorem Gro.trans {H0 H1 H2 : Hp} (a : Gro H0 H1) (b : Gro H1 H2) : Gro H0 H2 := fun c h => a c (b c h)
theorem gro_sm {H0 H : Hp} (e : Same H0 H) : Gro H0 H := fun b h => e.free h
theorem gro_upd {H : Hp} {p : Addr} {o : HO} : Gro H (upd H p o) := fun b h => by
  by_cases hb : b = p
  · rw [hb, upd_same] at h
    cases h
  · rwa [upd_ne hb] at h
theorem gro_but {d : Addr} {H0 H : Hp} (e : But d H0 H) (hd : H d ≠ none) : Gro H0 H := fun b h => by
  by_cases hb : b = d
  · rw [hb] at h
    exact absurd h hd
  · cases z : H0 b with
    | none => rfl
    | some u =>
      rw [e.get hb z] at h
      cases h
theorem nw_but {d : Addr} {H0 H H' : Hp} (e : But d H H') (h0 : H0 d ≠ none) : Same (nw H0 H) (nw H0 H') := fun b u z => by
  obtain ⟨z1, z2⟩ := nw_some z
  rw [nw_new z1]
  exact e.get (fun q => h0 (by rw [← q]; exact z1)) z2
theorem nw_keep {H0 H H' : Hp} (e : Same H H') : Same (nw H0 H) (nw H0 H') := fun b u z => by
  obtain ⟨z1, z2⟩ := nw_some z
  rw [nw_new z1]
  exact e _ _ z2
theorem nw_back {H0 H1 H : Hp} (g : Gro H0 H1) : Same (nw H1 H) (nw H0 H) := fun b u z => by
  obtain ⟨z1, z2⟩ := nw_some z
  rw [nw_new (g _ z1)]
  exact z2
/-- what is new since H1 isn't p, that stood in H1 -/
theorem nw_del {H1 H : Hp} {p : Addr} (h : H1 p ≠ none) : Same (nw H1 H) (del (nw H1 H) p) := fun b u z => by
  rw [del_ne fun q => h (by rw [← q]; exact (nw_some z).1)]
  exact z
theorem del_mono {p : Addr} {H H' : Hp} (e : Same H H') : Same (del H p) (del H' p) := but_sm e
section
variable {P : Program} {w : World} {K : PySem.W.Frag} {mg : Str → Option Value} {base : Heap}
def spBegin (K : PySem.W.Frag) : Sp := fun vs H Q _ => match vs with
  | [x] => ∃ (a : Addr) (xs : List Int), x = .ref a ∧ SqL K H a (xs.map V.int) ∧ ∀ d sc H', Same H H' → H d = none → DrawAt K H' d sc → Q (.ref d) H'
  | _ => False
theorem sc_law_begin : FnScope ["_law_script"] ["_law_script"] (defScope s_law_begin) := ⟨rfl, rfl, rfl, by decide +kernel, rfl, by decide +kernel, by decide +kernel⟩
theorem c_law_begin (T : Top w K mg) : Cal P w K mg base CX0 1 "_law_begin" (spBegin K) := by
  refine cal_0 (f_law_begin T) (g_law_begin T) sc_law_begin (fun _ _ _ _ _ _ us hl => match us, hl with | [_], _ => rfl) (fun vs H Q E h => match vs, h with | [_], _ => rfl) (fun cdv A outer s H vs Q E hr h => ?_)
  match vs, h with
  | [x], h =>
  obtain ⟨a, xs, rfl, ha, q⟩ := h
  refine ⟨_, (pss_one (ps_ret (pe_lst (pa_cons (pct (z_list T) call_list_of boot_list (pa_cons (pv 0) pa_nil)) (pa_cons pe_int (pa_cons pe_int (pa_cons pe_int pa_nil))))))), ?_⟩
  refine ⟨_, rfl, a, _, rfl, .inl ha, fun sc hsc => ?_⟩
  refine ⟨(by show 4 ≤ sizeLine; decide), fun d hd => ?_⟩
  have s1 : Same H (upd H sc (.lst (xs.map V.int))) := smNew1 hsc _
  refine q d sc _ (smNew s1 hd _) (s1.free hd) ⟨⟨0, 0, 7, upd_same, Int.le_refl 0⟩, xs, ?_⟩
  refine SqL.of ?_
  have hne : sc ≠ d := fun e => by
    rw [← e, upd_same] at hd
    cases hd
  rw [del_ne hne, upd_ne hne]
  exact upd_same
/-! ### _law_draw -/
def spDraw (K : PySem.W.Frag) : Sp := fun vs H Q _ => match vs with
  | [x, y] => ∃ d sc m, x = .ref d ∧ y = .int m ∧ DrawAt K H d sc ∧ 0 < m ∧ m < 1000000 ∧ ∀ r H', 0 ≤ r → r < m → But d H H' → DrawAt K H' d sc → Q (.int r) H'
  | _ => False
theorem sc_law_draw : FnScope ["_law_draws", "_law_many", "_law_cell", "_law_found"] ["_law_draws", "_law_many"] (defScope s_law_draw) := ⟨rfl, rfl, rfl, by decide +kernel, rfl, by decide +kernel, by decide +kernel⟩
theorem c_law_draw (T : Top w K mg) : Cal P w K mg base CX0 1 "_law_draw" (spDraw K) := by
  refine cal_0 (f_law_draw T) (g_law_draw T) sc_law_draw (fun _ _ _ _ _ _ us hl => match us, hl with | [_, _], _ => rfl) (fun vs H Q E h => match vs, h with | [_, _], _ => rfl) (fun cdv A outer s H vs Q E hr h => ?_)
  match vs, h with
  | [x, y], h =>
  obtain ⟨d, sc, m, rfl, rfl, ⟨⟨p, q0, r, hd, hp⟩, xs, hs⟩, m0, m1, q⟩ := h
  refine ⟨_, (pss_cons (ps_if (pt_cmpR op_eq (pe_ix ix_list (pv 0) pe_int (fun _ _ => rfl)) pe_int (nomark _))
      (pss_one (ps_if (pt_cmpR op_lt (pe_ix ix_list (pv 0) pe_int (fun _ _ => rfl)) (pcb (z_len T) call_len_seq boot_len (pa_cons (pe_ix ix_list (pv 0) pe_int (fun _ _ => rfl)) pa_nil)) (nomark _))
      (pss_cons (ps_set (i := 2) sc_law_draw.nd rfl (Or.inl rfl) (pe_ix ix_list (pe_ix ix_list (pv 0) pe_int (fun _ _ => rfl)) (pe_ix ix_list (pv 0) pe_int (fun _ _ => rfl)) (fun _ _ => rfl)))
    (pss_cons (ps_asg (pe_op op_add (pe_ix ix_list (pv 0) pe_int (fun _ _ => rfl)) pe_int) (pg_sub (pv 0) pe_int set_list))
    (pss_one (ps_if (pt_cmpR op_ge (pv 2) (pe_op op_pow pe_int pe_int) (nomark _))
      (pss_one (ps_asg (pv 2) (pg_sub (pv 0) pe_int set_list)))
      (pss_one (ps_asg (pe_op op_mod (pct (z_int T) call_int1 boot_int (pa_cons (pe_op op_add (pe_op op_add (pe_op op_mul (pe_ix ix_list (pv 0) pe_int (fun _ _ => rfl)) pe_int) (pe_op op_mul (pv 2) pe_int)) pe_int) pa_nil)) pe_int) (pg_sub (pv 0) pe_int set_list)))))))
      (pss_one (ps_asg (pe_op op_mod (pct (z_int T) call_int1 boot_int (pa_cons (pe_op op_add (pe_op op_mul (pe_ix ix_list (pv 0) pe_int (fun _ _ => rfl)) pe_int) pe_int) pa_nil)) pe_int) (pg_sub (pv 0) pe_int set_list)))))
      pss_nil)
    (pss_cons (ps_if (pt_cmpR op_gt (pe_ix ix_list (pv 0) pe_int (fun _ _ => rfl)) pe_int (nomark _))
      (pss_cons (ps_set (i := 3) sc_law_draw.nd rfl (Or.inl rfl) (pe_op op_mod (pct (z_int T) call_int1 boot_int (pa_cons (pe_ix ix_list (pv 0) pe_int (fun _ _ => rfl)) pa_nil)) (pv 1)))
    (pss_cons (ps_asg (pe_op op_fdiv (pe_ix ix_list (pv 0) pe_int (fun _ _ => rfl)) (pv 1)) (pg_sub (pv 0) pe_int set_list))
    (pss_one (ps_ret (pv 3)))))
      pss_nil)
    (pss_one (ps_ret (pe_op op_mod (pe_op op_mod (pct (z_int T) call_int1 boot_int (pa_cons (pe_op op_mul (pe_ix ix_list (pv 0) pe_int (fun _ _ => rfl)) pe_int) pa_nil)) pe_int) (pv 1)))))), ?_⟩
  have hs0 : SqL K H sc (xs.map V.int) := (del_sm H d).seq hs
  refine ⟨_, rfl, _, _, _, _, rfl, rfl, SqL.of hd, at2, rfl, _, rfl, ?_⟩
  refine ifB (fun hq => ?_) (fun hq => ?_)
  · refine ⟨_, rfl, _, _, _, _, rfl, rfl, SqL.of hd, at1, ?_⟩
    refine ⟨_, rfl, _, _, _, _, rfl, rfl, SqL.of hd, at0, _, _, rfl, .inl hs0, ?_⟩
    refine ⟨_, _, rfl, rfl, _, rfl, ?_⟩
    refine ifB (fun hl => ?_) (fun hl => ?_)
    · have hl1 : p < ((xs.map V.int).length : Nat) := of_decide_eq_true hl
      rw [List.length_map] at hl1
      obtain ⟨k, rfl⟩ : ∃ k : Nat, p = k := ⟨p.toNat, by omega⟩
      have hk : k < xs.length := by omega
      -- the cell
      refine ⟨_, rfl, _, _, _, _, rfl, rfl, SqL.of hd, at0, ?_⟩
      refine ⟨_, rfl, _, _, _, _, rfl, rfl, SqL.of hd, at1, ?_⟩
      refine ⟨_, _, _, V.int xs[k], rfl, rfl, hs0, atI_nat (by rw [List.getElem?_map, List.getElem?_eq_getElem hk]; rfl), ?_⟩
      -- the place
      refine ⟨_, rfl, _, _, _, _, rfl, rfl, SqL.of hd, at1, ?_⟩
      refine ⟨_, _, rfl, rfl, ?_⟩
      refine ⟨_, rfl, d, _, _, 1, rfl, rfl, hd, rfl, ?_⟩
      obtain ⟨H1, e1, hd1, hs1, bt1⟩ : ∃ H1, H1 = upd H d (.lst [.ref sc, .int ((k : Int) + 1), .int q0, .int r]) ∧ H1 d = some (.lst [.ref sc, .int ((k : Int) + 1), .int q0, .int r]) ∧ SqL K (del H1 d) sc (xs.map V.int) ∧ But d H H1 := ⟨_, rfl, upd_same, (but_upd d H _).seq hs, but_upd d H _⟩
      have e1' : upd H d (.lst ([V.ref sc, .int k, .int q0, .int r].set 1 (.int ((k : Int) + 1)))) = H1 := e1.symm
      rw [e1']
      have hp2 : (0 : Int) ≤ (k : Int) + 1 := by omega
      refine ⟨_, rfl, _, _, rfl, rfl, ⟨by decide, by decide, by decide⟩, ?_⟩
      refine ⟨_, _, rfl, rfl, _, rfl, ?_⟩
      refine ifB (fun hc => ?_) (fun hc => ?_)
      · refine ⟨_, rfl, _, rfl, d, _, _, 2, rfl, rfl, hd1, rfl, ?_⟩
        obtain ⟨H2, e2, hd2, hs2, bt⟩ : ∃ H2, H2 = upd H1 d (.lst [.ref sc, .int ((k : Int) + 1), .int xs[k], .int r]) ∧ H2 d = some (.lst [.ref sc, .int ((k : Int) + 1), .int xs[k], .int r]) ∧ SqL K (del H2 d) sc (xs.map V.int) ∧ But d H H2 := ⟨_, rfl, upd_same, (but_upd d H1 _).seq hs1, bt1.trans (but_upd d H1 _)⟩
        have e2' : upd H1 d (.lst ([V.ref sc, .int ((k : Int) + 1), .int q0, .int r].set 2 (.int xs[k]))) = H2 := e2.symm
        rw [e2']
        refine ⟨_, rfl, _, _, _, _, rfl, rfl, SqL.of hd2, at2, _, _, rfl, rfl, _, rfl, ?_⟩
        refine ifB (fun hq2 => ?_) (fun hq2 => ?_)
        · refine ⟨_, rfl, _, _, _, _, rfl, rfl, SqL.of hd2, at2, .inl ⟨_, rfl, ?_⟩⟩
          refine ⟨_, rfl, _, _, rfl, rfl, m0, ?_⟩
          refine ⟨_, rfl, _, _, _, _, rfl, rfl, SqL.of hd2, at2, ?_⟩
          refine ⟨_, rfl, _, _, rfl, rfl, ⟨m0, by omega⟩, ?_⟩
          refine ⟨_, rfl, d, _, _, 2, rfl, rfl, hd2, rfl, ?_⟩
          refine ⟨_, rfl, ?_⟩
          exact q _ _ (Int.emod_nonneg _ (by omega)) (Int.emod_lt_of_pos _ m0) (bt.trans (but_upd d _ _)) (DrawAt.set hs2 hp2 _ _)
        · refine ⟨_, rfl, _, _, _, _, rfl, rfl, SqL.of hd2, at3, ?_⟩
          refine ⟨_, _, rfl, rfl, .inr (by decide), .inl ⟨_, rfl, ?_⟩⟩
          refine ⟨_, _, rfl, rfl, (by show (0 : Int) < _; decide), ?_⟩
          refine ⟨_, rfl, _, _, rfl, rfl, m0, ?_⟩
          exact q _ _ (Int.emod_nonneg _ (by omega)) (Int.emod_lt_of_pos _ m0) bt ⟨⟨_, _, _, hd2, hp2⟩, _, hs2⟩
      · refine ⟨_, rfl, _, _, _, _, rfl, rfl, SqL.of hd1, at3, ?_⟩
        refine ⟨_, _, rfl, rfl, .inr (by decide), ?_⟩
        refine ⟨_, rfl, _, _, rfl, rfl, .inr (by decide), ?_⟩
        refine ⟨_, _, rfl, rfl, _, _, rfl, rfl, .inl ⟨_, rfl, ?_⟩⟩
        refine ⟨_, _, rfl, rfl, (by show (0 : Int) < _; decide), ?_⟩
        refine ⟨_, rfl, d, _, _, 3, rfl, rfl, hd1, rfl, ?_⟩
        obtain ⟨H2, e2, hd2, hs2, bt⟩ : ∃ H2, H2 = upd H1 d (.lst [.ref sc, .int ((k : Int) + 1), .int q0, .int ((r * 48271 + xs[k] * 69621 + 11) % 2147483647)]) ∧ H2 d = some (.lst [.ref sc, .int ((k : Int) + 1), .int q0, .int ((r * 48271 + xs[k] * 69621 + 11) % 2147483647)]) ∧ SqL K (del H2 d) sc (xs.map V.int) ∧ But d H H2 := ⟨_, rfl, upd_same, (but_upd d H1 _).seq hs1, bt1.trans (but_upd d H1 _)⟩
        have e2' : upd H1 d (.lst ([V.ref sc, .int ((k : Int) + 1), .int q0, .int r].set 3 (.int ((r * 48271 + xs[k] * 69621 + 11) % 2147483647)))) = H2 := e2.symm
        rw [e2']
        refine ⟨_, rfl, _, _, _, _, rfl, rfl, SqL.of hd2, at2, _, _, rfl, rfl, _, rfl, ?_⟩
        refine ifB (fun hq2 => ?_) (fun hq2 => ?_)
        · refine ⟨_, rfl, _, _, _, _, rfl, rfl, SqL.of hd2, at2, .inl ⟨_, rfl, ?_⟩⟩
          refine ⟨_, rfl, _, _, rfl, rfl, m0, ?_⟩
          refine ⟨_, rfl, _, _, _, _, rfl, rfl, SqL.of hd2, at2, ?_⟩
          refine ⟨_, rfl, _, _, rfl, rfl, ⟨m0, by omega⟩, ?_⟩
          refine ⟨_, rfl, d, _, _, 2, rfl, rfl, hd2, rfl, ?_⟩
          refine ⟨_, rfl, ?_⟩
          exact q _ _ (Int.emod_nonneg _ (by omega)) (Int.emod_lt_of_pos _ m0) (bt.trans (but_upd d _ _)) (DrawAt.set hs2 hp2 _ _)
        · refine ⟨_, rfl, _, _, _, _, rfl, rfl, SqL.of hd2, at3, ?_⟩
          refine ⟨_, _, rfl, rfl, .inr (by decide), .inl ⟨_, rfl, ?_⟩⟩
          refine ⟨_, _, rfl, rfl, (by show (0 : Int) < _; decide), ?_⟩
          refine ⟨_, rfl, _, _, rfl, rfl, m0, ?_⟩
          exact q _ _ (Int.emod_nonneg _ (by omega)) (Int.emod_lt_of_pos _ m0) bt ⟨⟨_, _, _, hd2, hp2⟩, _, hs2⟩
    · refine ⟨_, rfl, _, _, _, _, rfl, rfl, SqL.of hd, at3, ?_⟩
      refine ⟨_, _, rfl, rfl, .inr (by decide), ?_⟩
      refine ⟨_, _, rfl, rfl, .inl ⟨_, rfl, ?_⟩⟩
      refine ⟨_, _, rfl, rfl, (by show (0 : Int) < _; decide), ?_⟩
      refine ⟨_, rfl, d, _, _, 3, rfl, rfl, hd, rfl, ?_⟩
      have hp2 := hp
      obtain ⟨H2, e2, hd2, hs2, bt⟩ : ∃ H2, H2 = upd H d (.lst [.ref sc, .int p, .int q0, .int ((r * 48271 + 7) % 2147483647)]) ∧ H2 d = some (.lst [.ref sc, .int p, .int q0, .int ((r * 48271 + 7) % 2147483647)]) ∧ SqL K (del H2 d) sc (xs.map V.int) ∧ But d H H2 := ⟨_, rfl, upd_same, (but_upd d H _).seq hs, but_upd d H _⟩
      have e2' : upd H d (.lst ([V.ref sc, .int p, .int q0, .int r].set 3 (.int ((r * 48271 + 7) % 2147483647)))) = H2 := e2.symm
      rw [e2']
      refine ⟨_, rfl, _, _, _, _, rfl, rfl, SqL.of hd2, at2, _, _, rfl, rfl, _, rfl, ?_⟩
      refine ifB (fun hq2 => ?_) (fun hq2 => ?_)
      · refine ⟨_, rfl, _, _, _, _, rfl, rfl, SqL.of hd2, at2, .inl ⟨_, rfl, ?_⟩⟩
        refine ⟨_, rfl, _, _, rfl, rfl, m0, ?_⟩
        refine ⟨_, rfl, _, _, _, _, rfl, rfl, SqL.of hd2, at2, ?_⟩
        refine ⟨_, rfl, _, _, rfl, rfl, ⟨m0, by omega⟩, ?_⟩
        refine ⟨_, rfl, d, _, _, 2, rfl, rfl, hd2, rfl, ?_⟩
        refine ⟨_, rfl, ?_⟩
        exact q _ _ (Int.emod_nonneg _ (by omega)) (Int.emod_lt_of_pos _ m0) (bt.trans (but_upd d _ _)) (DrawAt.set hs2 hp2 _ _)
      · refine ⟨_, rfl, _, _, _, _, rfl, rfl, SqL.of hd2, at3, ?_⟩
        refine ⟨_, _, rfl, rfl, .inr (by decide), .inl ⟨_, rfl, ?_⟩⟩
        refine ⟨_, _, rfl, rfl, (by show (0 : Int) < _; decide), ?_⟩
        refine ⟨_, rfl, _, _, rfl, rfl, m0, ?_⟩
        exact q _ _ (Int.emod_nonneg _ (by omega)) (Int.emod_lt_of_pos _ m0) bt ⟨⟨_, _, _, hd2, hp2⟩, _, hs2⟩
  · have hd2 := hd
    have hs2 := hs
    have hp2 := hp
    have bt := But.refl d H
    refine ⟨_, rfl, _, _, _, _, rfl, rfl, SqL.of hd2, at2, _, _, rfl, rfl, _, rfl, ?_⟩
    refine ifB (fun hq2 => ?_) (fun hq2 => ?_)
    · refine ⟨_, rfl, _, _, _, _, rfl, rfl, SqL.of hd2, at2, .inl ⟨_, rfl, ?_⟩⟩
      refine ⟨_, rfl, _, _, rfl, rfl, m0, ?_⟩
      refine ⟨_, rfl, _, _, _, _, rfl, rfl, SqL.of hd2, at2, ?_⟩
      refine ⟨_, rfl, _, _, rfl, rfl, ⟨m0, by omega⟩, ?_⟩
      refine ⟨_, rfl, d, _, _, 2, rfl, rfl, hd2, rfl, ?_⟩
      refine ⟨_, rfl, ?_⟩
      exact q _ _ (Int.emod_nonneg _ (by omega)) (Int.emod_lt_of_pos _ m0) (bt.trans (but_upd d _ _)) (DrawAt.set hs2 hp2 _ _)
    · refine ⟨_, rfl, _, _, _, _, rfl, rfl, SqL.of hd2, at3, ?_⟩
      refine ⟨_, _, rfl, rfl, .inr (by decide), .inl ⟨_, rfl, ?_⟩⟩
      refine ⟨_, _, rfl, rfl, (by show (0 : Int) < _; decide), ?_⟩
      refine ⟨_, rfl, _, _, rfl, rfl, m0, ?_⟩
      exact q _ _ (Int.emod_nonneg _ (by omega)) (Int.emod_lt_of_pos _ m0) bt ⟨⟨_, _, _, hd2, hp2⟩, _, hs2⟩
end
end RM

set_option Elab.async false
set_option linter.all false
set_option maxRecDepth 100000
set_option maxHeartbeats 4000000
/-! some lists are changed, all else is kept -/
namespace RM
open PySem PySem.Spec PyProof.Rows L2
def isL : HO → Bool
  | .lst _ => true
  | _ => false
structure Ls (S : List Addr) (H H' : Hp) : Prop where
  nl : ∀ b u, isL u = false → H b = some u → H' b = some u
  ls : ∀ b xs, b ∉ S → H b = some (.lst xs) → H' b = some (.lst xs)
def dlS (H : Hp) (S : List Addr) : Hp := fun b => if b ∈ S then none else H b
section
variable {K : PySem.W.Frag} {S : List Addr} {H H' H2 : Hp} {d sc : Addr}
theorem Ls.refl : Ls S H H := ⟨fun _ _ _ h => h, fun _ _ _ h => h⟩
theorem Ls.trans (a : Ls S H H') (b : Ls S H' H2) : Ls S H H2 := ⟨fun x u n h => b.nl x u n (a.nl x u n h), fun x xs n h => b.ls x xs n (a.ls x xs n h)⟩
theorem Ls.sm (e : Same H H') : Ls S H H' := ⟨fun x u _ h => e _ _ h, fun x xs _ h => e _ _ h⟩
theorem Ls.but (b : But d H H') (hd : Hd4 H d sc) (hS : d ∈ S) : Ls S H H' := by
  obtain ⟨i, j, k, h, _⟩ := hd
  refine ⟨fun x u n hx => b.get (fun z => ?_) hx, fun x xs n hx => b.get (fun z => n (z ▸ hS)) hx⟩
  rw [z, h] at hx
  injection hx with hx
  rw [← hx] at n
  cases n
theorem Ls.upd {p : Addr} {xs : List V} {o : HO} (hp : H p = some (.lst xs)) (hS : p ∈ S) : Ls S H (L2.upd H p o) := by
  refine ⟨fun x u n hx => ?_, fun x ys n hx => ?_⟩
  · rw [upd_ne fun z => ?_]
    · exact hx
    · rw [z, hp] at hx
      injection hx with hx
      rw [← hx] at n
      cases n
  · rw [upd_ne fun z : x = p => n (by rw [z]; exact hS)]
    exact hx
theorem dlS_sm (H : Hp) (S : List Addr) : Same (dlS H S) H := fun b u h => by
  unfold dlS at h
  split at h
  · cases h
  · exact h
/-- the draws, apart from lists that change -/
structure DrawS (K : PySem.W.Frag) (H : Hp) (d sc : Addr) (S : List Addr) : Prop where
  hd : Hd4 H d sc
  sc : Scr K (dlS (del H d) S) sc
  ne : ∀ p ∈ S, p ≠ d
theorem DrawAt.none (h : DrawAt K H d sc) : DrawS K H d sc [] := ⟨h.1, h.2.keep fun b u hb => by unfold dlS; rw [if_neg (by simp)]; exact hb, fun p hp => by simp at hp⟩
theorem DrawS.one (h : DrawS K H d sc S) : DrawAt K H d sc := ⟨h.hd, h.sc.keep (dlS_sm _ _)⟩
theorem DrawS.but (h : DrawS K H d sc S) (b : But d H H') (dr : DrawAt K H' d sc) : DrawS K H' d sc S := ⟨dr.1, h.sc.keep fun c u hc => by
  unfold dlS at hc ⊢
  by_cases z : c ∈ S
  · rw [if_pos z] at hc; cases hc
  · rw [if_neg z] at hc ⊢
    exact b _ _ hc, h.ne⟩
theorem DrawS.keep (h : DrawS K H d sc S) (e : Same H H') : DrawS K H' d sc S := h.but (but_sm e) (h.one.keep e)
theorem DrawS.upd {p : Addr} (h : DrawS K H d sc S) (o : HO) (hp : p ∈ S) : DrawS K (L2.upd H p o) d sc S := by
  obtain ⟨⟨i, j, k, h1, h2⟩, h3, ne⟩ := h
  refine ⟨⟨i, j, k, by rw [upd_ne (Ne.symm (ne p hp))]; exact h1, h2⟩, h3.keep fun c u hc => ?_, ne⟩
  unfold dlS at hc ⊢
  by_cases z : c ∈ S
  · rw [if_pos z] at hc; cases hc
  · rw [if_neg z] at hc ⊢
    by_cases e2 : c = d
    · rw [e2, del_same] at hc; cases hc
    · rw [del_ne e2] at hc ⊢
      rw [upd_ne fun q : c = p => z (by rw [q]; exact hp)]
      exact hc
theorem DrawS.new {p : Addr} (h : DrawS K H d sc S) (hp : H p = none) (o : HO) : DrawS K (L2.upd H p o) d sc (p :: S) := by
  have nd : p ≠ d := fun z => h.hd.ne (by rw [← z]; exact hp)
  refine ⟨h.hd.keep (smNew1 hp _), h.sc.keep fun c u hc => ?_, fun q hq => ?_⟩
  · unfold dlS at hc ⊢
    by_cases z : c ∈ S
    · rw [if_pos z] at hc; cases hc
    · rw [if_neg z] at hc
      by_cases e2 : c = d
      · rw [e2, del_same] at hc; cases hc
      · rw [del_ne e2] at hc
        have cp : c ≠ p := ne_of_none hc hp
        rw [if_neg (by simp [cp, z]), del_ne e2, upd_ne cp]
        exact hc
  · rcases List.mem_cons.mp hq with rfl | hq
    · exact nd
    · exact h.ne q hq
theorem but_out {H H' : Hp} {d p : Addr} (e : But d H H') (h : H p = none) (o : HO) : But d H (upd H' p o) := fun b u hb => by
  have h1 := e b u hb
  have nd : b ≠ d := fun z => by rw [z, del_same] at hb; cases hb
  rw [del_ne nd] at hb h1 ⊢
  rw [upd_ne (ne_of_none hb h)]
  exact h1
end
end RM

set_option Elab.async false
set_option linter.all false
set_option maxRecDepth 100000
set_option maxHeartbeats 8000000
set_option pp.maxSteps 600
set_option pp.deepTerms false
namespace RM
open PySem PySem.Spec PyProof.Rows L2
theorem map_eraseN {α β : Type} (f : α → β) : ∀ (l : List α) (i : Nat), (l.map f).eraseIdx i = (l.eraseIdx i).map f
  | [], i => by simp
  | a :: r, 0 => rfl
  | a :: r, i + 1 => by
    show f a :: (r.map f).eraseIdx i = f a :: (r.eraseIdx i).map f
    rw [map_eraseN f r i]
def oddL : List Str := ["", "x", "X", "0", "-0", "07", "100", "-99", "4", "toolong", "else", "wait", "+1"]
theorem odd_ok : ∀ w ∈ oddL, 10 ∉ cl w ∧ w.length ≤ 7 := by decide +kernel
def newL : List Str := ["", "else", "  else", "wait", "repeat 1", "  wait", "if x 1"]
theorem new_ok : ∀ w ∈ newL, 10 ∉ cl w ∧ w.length ≤ 8 := by decide +kernel
def spL : List Str := [" ", "  "]
theorem sp_ok : ∀ w ∈ spL, 10 ∉ cl w ∧ w.length ≤ 2 := by decide +kernel
/-- lines: how many, how long, no line feed -/
structure LOk (M N : Nat) (L : List Str) : Prop where
  pos : 1 ≤ L.length
  cnt : L.length ≤ M
  each : ∀ z ∈ L, z.length ≤ N ∧ 10 ∉ cl z
theorem LOk.mono {M N M' N' : Nat} {L : List Str} (h : LOk M N L) (hm : M ≤ M') (hn : N ≤ N') : LOk M' N' L := ⟨h.pos, Nat.le_trans h.cnt hm, fun z hz => ⟨Nat.le_trans (h.each z hz).1 hn, (h.each z hz).2⟩⟩
theorem LOk.set {M N : Nat} {L : List Str} (h : LOk M N L) (i : Nat) {w : Str} (hw : w.length ≤ N ∧ 10 ∉ cl w) : LOk M N (L.set i w) := ⟨by rw [List.length_set]; exact h.pos, by rw [List.length_set]; exact h.cnt, fun z hz => by
  rcases List.mem_or_eq_of_mem_set hz with h2 | rfl
  · exact h.each z h2
  · exact hw⟩
theorem LOk.ins {M N : Nat} {L : List Str} (h : LOk M N L) {i : Nat} (hi : i ≤ L.length) {w : Str} (hw : w.length ≤ N ∧ 10 ∉ cl w) : LOk (M + 1) N (L.take i ++ [w] ++ L.drop i) ∧ (L.take i ++ [w] ++ L.drop i).length = L.length + 1 := by
  have e : (L.take i ++ [w] ++ L.drop i).length = L.length + 1 := by
    rw [List.length_append, List.length_append, List.length_take, List.length_drop]
    show min i L.length + 1 + _ = _
    omega
  refine ⟨⟨by omega, by have := h.cnt; omega, fun z hz => ?_⟩, e⟩
  rcases List.mem_append.mp hz with hz | hz
  · rcases List.mem_append.mp hz with hz | hz
    · exact h.each z (List.mem_of_mem_take hz)
    · rw [List.mem_singleton.mp hz]; exact hw
  · exact h.each z (List.mem_of_mem_drop hz)
theorem LOk.move {M N : Nat} {L : List Str} (h : LOk M N L) {k : Nat} (hk : k < L.length) {r : Nat} (hr : r ≤ (L.eraseIdx k).length) : LOk M N ((L.eraseIdx k).take r ++ [L[k]] ++ (L.eraseIdx k).drop r) ∧ ((L.eraseIdx k).take r ++ [L[k]] ++ (L.eraseIdx k).drop r).length = L.length := by
  have le : (L.eraseIdx k).length = L.length - 1 := List.length_eraseIdx_of_lt hk
  have e : ((L.eraseIdx k).take r ++ [L[k]] ++ (L.eraseIdx k).drop r).length = L.length := by
    rw [List.length_append, List.length_append, List.length_take, List.length_drop]
    show min r _ + 1 + _ = _
    omega
  refine ⟨⟨by rw [e]; exact h.pos, by rw [e]; exact h.cnt, fun z hz => ?_⟩, e⟩
  rcases List.mem_append.mp hz with hz | hz
  · rcases List.mem_append.mp hz with hz | hz
    · exact h.each z (List.mem_of_mem_eraseIdx (List.mem_of_mem_take hz))
    · rw [List.mem_singleton.mp hz]; exact h.each _ (List.getElem_mem hk)
  · exact h.each z (List.mem_of_mem_eraseIdx (List.mem_of_mem_drop hz))
theorem LOk.erase {M N : Nat} {L : List Str} (h : LOk M N L) {k : Nat} (hk : k < L.length) (h1 : 1 < L.length) : LOk M N (L.eraseIdx k) := by
  have le : (L.eraseIdx k).length = L.length - 1 := List.length_eraseIdx_of_lt hk
  exact ⟨by omega, by have := h.cnt; omega, fun z hz => h.each z (List.mem_of_mem_eraseIdx hz)⟩
theorem pick_of {l : List Str} {c : Nat} (ok : ∀ w ∈ l, 10 ∉ cl w ∧ w.length ≤ c) {r : Int} (h0 : 0 ≤ r) (h1 : r < ((l.map V.str).length : Nat)) : ∃ wd, atI (l.map V.str) r = some (.str wd) ∧ 10 ∉ cl wd ∧ wd.length ≤ c := by
  obtain ⟨k, rfl⟩ := Int.eq_ofNat_of_zero_le h0
  have kl : k < l.length := by rw [List.length_map] at h1; omega
  exact ⟨l[k], atI_nat (by rw [List.getElem?_map, List.getElem?_eq_getElem kl]; rfl), ok _ (List.getElem_mem kl)⟩
theorem cl_add (a b : Str) : (a ++ b).length = a.length + b.length ∧ (10 ∉ cl a → 10 ∉ cl b → 10 ∉ cl (a ++ b)) := by
  refine ⟨Str.length_append .., fun h1 h2 => ?_⟩
  rw [cl_app, List.mem_append, not_or]
  exact ⟨h1, h2⟩
section
variable {P : Program} {w : World} {K : PySem.W.Frag} {mg : Str → Option Value} {base : Heap}
def spSpoil (K : PySem.W.Frag) : Sp := fun vs H Q _ => match vs with
  | [x, y] => ∃ d sc la L M N, x = .ref d ∧ y = .ref la ∧ DrawS K H d sc [la] ∧ H la = some (.lst (L.map V.str)) ∧ LOk M N L ∧ M ≤ 200 ∧ N ≤ 300 ∧
    ∀ L' H', DrawS K H' d sc [la] → H' la = some (.lst (L'.map V.str)) → LOk (M + 1) (N + 20) L' → Q .non H'
  | _ => False
theorem sc_law_spoil : FnScope ["_law_draws", "_law_lines_here", "_law_at", "_law_words", "_law_where", "_law_odd", "_law_way", "_law_held"] ["_law_draws", "_law_lines_here"] (defScope s_law_spoil) := ⟨rfl, rfl, rfl, by decide +kernel, rfl, by decide +kernel, by decide +kernel⟩
theorem c_law_spoil (T : Top w K mg) : Cal P w K mg base CX0 2 "_law_spoil" (spSpoil K) := by
  refine cal_0 (f_law_spoil T) (g_law_spoil T) sc_law_spoil (fun _ _ _ _ _ _ us hl => match us, hl with | [_, _], _ => rfl) (fun vs H Q E h => match vs, h with | [_, _], _ => rfl) (fun cdv A outer s H vs Q E hr h => ?_)
  match vs, h with
  | [x, y], h =>
  obtain ⟨d, sc, la, L, M, N, rfl, rfl, ds, hla, lok, hM, hN, q⟩ := h
  -- slots: ["_law_draws", "_law_lines_here", "_law_at", "_law_words", "_law_where", "_law_odd", "_law_way", "_law_held"]
  refine ⟨_, (pss_cons (ps_set (i := 2) sc_law_spoil.nd rfl (Or.inl rfl) (pc (c_law_draw T) hr (pa_cons (pv 0) (pa_cons (pcb (z_len T) call_len_seq boot_len (pa_cons (pv 1) pa_nil)) pa_nil))))
    (pss_cons (ps_set (i := 3) sc_law_spoil.nd rfl (Or.inl rfl) (pe_split (pe_ix ix_list (pv 1) (pv 2) (fun _ _ => rfl)) pe_str))
    (pss_cons (ps_set (i := 4) sc_law_spoil.nd rfl (Or.inl rfl) (pc (c_law_draw T) hr (pa_cons (pv 0) (pa_cons (pcb (z_len T) call_len_seq boot_len (pa_cons (pv 3) pa_nil)) pa_nil))))
    (pss_cons (ps_set (i := 5) sc_law_spoil.nd rfl (Or.inl rfl) (pe_lst (pa_cons pe_str (pa_cons pe_str (pa_cons pe_str (pa_cons pe_str (pa_cons pe_str (pa_cons pe_str (pa_cons pe_str (pa_cons pe_str (pa_cons pe_str (pa_cons pe_str (pa_cons pe_str (pa_cons pe_str (pa_cons pe_str pa_nil)))))))))))))))
    (pss_cons (ps_set (i := 6) sc_law_spoil.nd rfl (Or.inl rfl) (pc (c_law_draw T) hr (pa_cons (pv 0) (pa_cons pe_int pa_nil))))
    (pss_cons (ps_mid (ps_if (pt_cmpR op_le (pv 6) pe_int (nomark _))
      (pss_one (ps_asg (pe_ix ix_list (pv 5) (pc (c_law_draw T) hr (pa_cons (pv 0) (pa_cons (pcb (z_len T) call_len_seq boot_len (pa_cons (pv 5) pa_nil)) pa_nil))) (fun _ _ => rfl)) (pg_sub (pv 3) (pv 4) set_list)))
      pss_nil))
    (pss_cons (ps_mid (ps_if (pt_cmpR op_eq (pv 6) pe_int (nomark _))
      (pss_one (ps_expr (pe_bm PySem.F.plainAttrs_list PySem.F.slot_list_pop PySem.F.type_list_pop mt_popAt (pv 3) (pa_cons (pv 4) pa_nil))))
      pss_nil))
    (pss_cons (ps_mid (ps_if (pt_cmpR op_eq (pv 6) pe_int (nomark _))
      (pss_one (ps_expr (pe_bm PySem.F.plainAttrs_list PySem.F.slot_list_insert PySem.F.type_list_insert mt_insert (pv 3) (pa_cons (pv 4) (pa_cons (pe_ix ix_list (pv 5) (pc (c_law_draw T) hr (pa_cons (pv 0) (pa_cons (pcb (z_len T) call_len_seq boot_len (pa_cons (pv 5) pa_nil)) pa_nil))) (fun _ _ => rfl)) pa_nil)))))
      pss_nil))
    (pss_cons (ps_asg (pe_join pe_str (pv 3)) (pg_sub (pv 1) (pv 2) set_list))
    (pss_cons (ps_mid (ps_if (pt_cmpR op_eq (pv 6) pe_int (nomark _))
      (pss_one (ps_expr (pe_bm PySem.F.plainAttrs_list PySem.F.slot_list_insert PySem.F.type_list_insert mt_insert (pv 1) (pa_cons (pv 2) (pa_cons (pe_ix ix_list (pe_lst (pa_cons pe_str (pa_cons pe_str (pa_cons pe_str (pa_cons pe_str (pa_cons pe_str (pa_cons pe_str (pa_cons pe_str pa_nil)))))))) (pc (c_law_draw T) hr (pa_cons (pv 0) (pa_cons pe_int pa_nil))) (fun _ _ => rfl)) pa_nil)))))
      pss_nil))
    (pss_cons (ps_mid (ps_if (pt_cmpR op_eq (pv 6) pe_int (nomark _))
      (pss_one (ps_asg (pe_op op_add_str (pe_ix ix_list (pe_lst (pa_cons pe_str (pa_cons pe_str pa_nil))) (pc (c_law_draw T) hr (pa_cons (pv 0) (pa_cons pe_int pa_nil))) (fun _ _ => rfl)) (pe_ix ix_list (pv 1) (pv 2) (fun _ _ => rfl))) (pg_sub (pv 1) (pv 2) set_list)))
      pss_nil))
    (pss_cons (ps_mid (ps_if (pt_cmpR op_eq (pv 6) pe_int (nomark _))
      (pss_cons (ps_set (i := 7) sc_law_spoil.nd rfl (Or.inl rfl) (pe_bm PySem.F.plainAttrs_list PySem.F.slot_list_pop PySem.F.type_list_pop mt_popAt (pv 1) (pa_cons (pv 2) pa_nil)))
    (pss_one (ps_expr (pe_bm PySem.F.plainAttrs_list PySem.F.slot_list_insert PySem.F.type_list_insert mt_insert (pv 1) (pa_cons (pc (c_law_draw T) hr (pa_cons (pv 0) (pa_cons (pe_op op_add (pcb (z_len T) call_len_seq boot_len (pa_cons (pv 1) pa_nil)) pe_int) pa_nil))) (pa_cons (pv 7) pa_nil))))))
      pss_nil))
    (pss_cons (ps_mid (ps_if (PW.pt (pw_and (pt_cmpR op_eq (pv 6) pe_int (nomark _)) (pw_and1 (pt_cmpR op_gt (pcb (z_len T) call_len_seq boot_len (pa_cons (pv 1) pa_nil)) pe_int (nomark _)))))
      (pss_one (ps_expr (pe_bm PySem.F.plainAttrs_list PySem.F.slot_list_pop PySem.F.type_list_pop mt_popAt (pv 1) (pa_cons (pv 2) pa_nil))))
      pss_nil))
    (pss_one (ps_mid (ps_if (pt_cmpR op_eq (pv 6) pe_int (nomark _))
      (pss_one (ps_asg (pe_op op_add_str (pe_ix ix_list (pv 1) (pv 2) (fun _ _ => rfl)) pe_str) (pg_sub (pv 1) (pv 2) set_list)))
      pss_nil)))))))))))))))), ?_⟩
  have lm : (L.map V.str).length = L.length := List.length_map ..
  have lap := ds.ne la (by simp)
  have lp := lok.pos
  have lc := lok.cnt
  refine ⟨_, rfl, _, rfl, la, _, rfl, .inl (SqL.of hla), d, sc, _, rfl, rfl, ds.one, by omega, by omega, fun r H1 r0 r1 b1 d1 => ?_⟩
  obtain ⟨k, rfl⟩ := Int.eq_ofNat_of_zero_le r0
  have kl : k < L.length := by rw [lm] at r1; omega
  have ds1 := ds.but b1 d1
  have hla1 := b1.get lap hla
  -- words
  have hLk : (L.map V.str)[k]? = some (.str L[k]) := by rw [List.getElem?_map, List.getElem?_eq_getElem kl]; rfl
  obtain ⟨z, ez⟩ : ∃ z, z = L[k] := ⟨_, rfl⟩
  rw [← ez] at hLk
  have zok := lok.each z (by rw [ez]; exact List.getElem_mem kl)
  refine ⟨_, rfl, _, rfl, la, _, _, _, rfl, rfl, SqL.of hla1, atI_nat hLk, ?_⟩
  have zl := zok.1
  refine ⟨⟨_, rfl⟩, _, _, rfl, rfl, by decide +kernel, by (show _ ≤ 16777216); omega, fun p np => ?_⟩
  have ok0 := okWs_split zok.2
  have ne := split_ne z
  obtain ⟨W, eW⟩ : ∃ W, W = Txt.split z " " := ⟨_, rfl⟩
  rw [← eW] at ok0 ne ⊢
  have pos : 0 < W.length := List.length_pos_iff.mpr ne
  have lw := ok0.2
  have lW : (W.map V.str).length = W.length := List.length_map ..
  have ds2 := ds1.new np (.lst (W.map V.str))
  have s2 := smNew1 np (.lst (W.map V.str))
  have hp2 : (upd H1 p (.lst (W.map V.str))) p = some (.lst (W.map V.str)) := upd_same
  have hla2 := s2 _ _ hla1
  have pla : p ≠ la := (ne_of_none hla1 np).symm
  have pd : p ≠ d := ds2.ne p (by simp)
  obtain ⟨H2, eH2⟩ : ∃ H2, H2 = upd H1 p (.lst (W.map V.str)) := ⟨_, rfl⟩
  rw [← eH2] at ds2 hp2 hla2 ⊢
  clear eH2 s2 hla1 ds1 hla np
  refine ⟨_, rfl, _, rfl, p, _, rfl, .inl (SqL.of hp2), d, sc, _, rfl, rfl, ds2.one, by omega, by omega, fun r2 H3 r20 r21 b3 d3 => ?_⟩
  obtain ⟨rn, rfl⟩ := Int.eq_ofNat_of_zero_le r20
  have rl : rn < W.length := by rw [lW] at r21; omega
  have ds3 := ds2.but b3 d3
  have hp3 := b3.get pd hp2
  have hla3 := b3.get lap hla2
  refine ⟨(by decide +kernel), fun o no => ?_⟩
  have s4 := smNew1 no (.lst (oddL.map V.str))
  have ho4 : (upd H3 o (.lst (oddL.map V.str))) o = some (.lst (oddL.map V.str)) := upd_same
  have od : o ≠ d := fun z => ds3.hd.ne (by rw [← z]; exact no)
  have op : o ≠ p := (ne_of_none hp3 no).symm
  have ola : o ≠ la := (ne_of_none hla3 no).symm
  have ds4 := ds3.keep s4
  have hp4 := s4 _ _ hp3
  have hla4 := s4 _ _ hla3
  refine ⟨_, rfl, d, sc, 9, rfl, rfl, ds4.one, by decide, by decide, fun way H5 w0 w1 b5 d5 => ?_⟩
  obtain ⟨way, rfl⟩ := Int.eq_ofNat_of_zero_le w0
  have ds5 := ds4.but b5 d5
  have hp5 := b5.get pd hp4
  have hla5 := b5.get lap hla4
  have ho5 := b5.get od ho4
  clear b5 d5 ds4 hp4 hla4 ho4 s4 no b3 d3 ds3 hp3 hla3 ds2 hp2 hla2 b1 d1
  have lodd : (oddL.map V.str).length = 13 := by rfl
  have big : ∀ {ws : List Str} {b : Nat}, okWs b ws → b ≤ 400 → (ws.map V.str).length < sizeLine := fun {ws b} h hb => small1000 (by rw [List.length_map]; have := h.2; omega)
  -- words[where] = ..
  refine ⟨fun σ' H' => ∃ ws, DrawS K H' d sc [p, la] ∧ H' la = some (.lst (L.map V.str)) ∧ H' o = some (.lst (oddL.map V.str)) ∧ H' p = some (.lst (ws.map V.str)) ∧ okWs (z.length + 8) ws ∧ (2 ≤ way → ws = W) ∧ σ' = [some (.ref d), some (.ref la), some (.int (k : Int)), some (.ref p), some (.int (rn : Int)), some (.ref o), some (.int (way : Int)), none], ?_, ?_⟩
  · refine ⟨_, rfl, _, _, rfl, rfl, _, rfl, ?_⟩
    by_cases hw : way ≤ 1
    · refine ifT (decide_eq_true (by show (way : Int) ≤ 1; omega)) ?_
      refine ⟨_, rfl, _, rfl, _, rfl, o, _, rfl, .inl (SqL.of ho5), d, sc, _, rfl, rfl, ds5.one, by rw [lodd]; omega, by rw [lodd]; omega, fun r3 H6 r30 r31 b6 d6 => ?_⟩
      obtain ⟨wd, hwd, nw, lwd⟩ := pick_of odd_ok r30 r31
      have ds6 := ds5.but b6 d6
      have hp6 := b6.get pd hp5
      have ho6 := b6.get od ho5
      have hla6 := b6.get lap hla5
      refine ⟨o, _, r3, _, rfl, rfl, SqL.of ho6, hwd, ?_⟩
      refine ⟨_, rfl, _, rfl, p, _, rn, rn, rfl, rfl, hp6, ixN_n (by rw [lW]; exact rl), ?_⟩
      refine ⟨W.set rn wd, ds6.upd _ (by simp), by rw [upd_ne pla.symm]; exact hla6, by rw [upd_ne op]; exact ho6, by rw [upd_same, List.map_set], ?_, fun h => by omega, rfl⟩
      have := okWs_set ok0 rn nw
      exact ⟨this.1, by have := this.2; omega⟩
    · refine ifF (decide_eq_false (by show ¬ (way : Int) ≤ 1; omega)) ?_
      exact ⟨W, ds5, hla5, ho5, hp5, ⟨ok0.1, by omega⟩, fun _ => rfl, rfl⟩
  rintro σ' H6 ⟨ws, ds6, hla6, ho6, hp6, ok6, same6, rfl⟩
  clear ds5 hla5 ho5 hp5
  -- words.pop(where)
  refine ⟨fun σ' H' => ∃ ws, DrawS K H' d sc [p, la] ∧ H' la = some (.lst (L.map V.str)) ∧ H' o = some (.lst (oddL.map V.str)) ∧ H' p = some (.lst (ws.map V.str)) ∧ okWs (z.length + 8) ws ∧ σ' = [some (.ref d), some (.ref la), some (.int (k : Int)), some (.ref p), some (.int (rn : Int)), some (.ref o), some (.int (way : Int)), none], ?_, ?_⟩
  · refine ⟨_, rfl, rfl, _, rfl, ?_⟩
    by_cases hw : way = 2
    · obtain rfl := same6 (by omega)
      refine ifT (decide_eq_true (by rw [hw]; rfl)) ?_
      refine ⟨_, rfl, .inl ⟨rfl, _, SqL.of hp6⟩, _, rfl, p, _, rn, rn, _, rfl, rfl, hp6, by omega, by omega, (ixN_seq (ixN_n (by rw [lW]; exact rl))).1, (by rw [List.getElem?_map, List.getElem?_eq_getElem rl]; rfl), ?_⟩
      exact ⟨ws.eraseIdx rn, ds6.upd _ (by simp), by rw [upd_ne pla.symm]; exact hla6, by rw [upd_ne op]; exact ho6, by rw [upd_same, map_eraseN], okWs_erase ok6 rn, rfl⟩
    · refine ifF (decide_eq_false fun e => hw (by injection e with e; omega)) ?_
      exact ⟨ws, ds6, hla6, ho6, hp6, ok6, rfl⟩
  rintro σ' H7 ⟨ws7, ds7, hla7, ho7, hp7, ok7, rfl⟩
  clear ds6 hla6 ho6 hp6 ok6 same6 ws
  -- words.insert(where, ..)
  refine ⟨fun σ' H' => ∃ ws, DrawS K H' d sc [p, la] ∧ H' la = some (.lst (L.map V.str)) ∧ H' p = some (.lst (ws.map V.str)) ∧ okWs (z.length + 16) ws ∧ σ' = [some (.ref d), some (.ref la), some (.int (k : Int)), some (.ref p), some (.int (rn : Int)), some (.ref o), some (.int (way : Int)), none], ?_, ?_⟩
  · refine ⟨_, rfl, rfl, _, rfl, ?_⟩
    by_cases hw : way = 3
    · refine ifT (decide_eq_true (by rw [hw]; rfl)) ?_
      refine ⟨_, rfl, .inl ⟨rfl, _, SqL.of hp7⟩, ?_⟩
      refine ⟨_, rfl, _, rfl, _, rfl, _, rfl, o, _, rfl, .inl (SqL.of ho7), d, sc, _, rfl, rfl, ds7.one, by rw [lodd]; omega, by rw [lodd]; omega, fun r3 H8 r30 r31 b8 d8 => ?_⟩
      obtain ⟨wd, hwd, nw, lwd⟩ := pick_of odd_ok r30 r31
      have ds8 := ds7.but b8 d8
      have hp8 := b8.get pd hp7
      have ho8 := b8.get od ho7
      have hla8 := b8.get lap hla7
      refine ⟨o, _, r3, _, rfl, rfl, SqL.of ho8, hwd, ?_⟩
      refine ⟨p, _, rn, _, rfl, rfl, hp8, big ok7 (by omega), by omega, by omega, ?_⟩
      have oki := okWs_ins ok7 rn nw
      exact ⟨ws7.take rn ++ [wd] ++ ws7.drop rn, ds8.upd _ (by simp), by rw [upd_ne pla.symm]; exact hla8, by rw [upd_same, List.map_append, List.map_append, List.map_take, List.map_drop]; rfl, ⟨oki.1, by have := oki.2; omega⟩, rfl⟩
    · refine ifF (decide_eq_false fun e => hw (by injection e with e; omega)) ?_
      exact ⟨ws7, ds7, hla7, hp7, ⟨ok7.1, by have := ok7.2; omega⟩, rfl⟩
  rintro σ' H8 ⟨ws, ds8, hla8, hp8, ok8, rfl⟩
  clear ds7 hla7 ho7 hp7 ok7 ws7
  -- the line anew
  obtain ⟨f1, f2⟩ := okWs_join ok8
  refine ⟨⟨_, rfl⟩, _, rfl, " ", p, _, rfl, rfl, .inl (SqL.of hp8), ?_, ?_⟩
  · have h2 := ok8.2
    unfold lensum at h2
    rw [blank_one]
    omega
  refine ⟨_, rfl, _, rfl, la, _, k, k, rfl, rfl, hla8, ixN_n (by rw [lm]; exact kl), ?_⟩
  have lok9 : LOk M (N + 16) (L.set k (Txt.join " " ws)) := (lok.mono (Nat.le_refl _) (by omega)).set k ⟨by omega, f1⟩
  have kl9 : k < (L.set k (Txt.join " " ws)).length := by rw [List.length_set]; exact kl
  have hla9 : (upd H8 la (.lst ((L.map V.str).set k (.str (Txt.join " " ws))))) la = some (.lst ((L.set k (Txt.join " " ws)).map V.str)) := by rw [upd_same, List.map_set]
  have ds9 : DrawS K (upd H8 la (.lst ((L.map V.str).set k (.str (Txt.join " " ws))))) d sc [p, la] := ds8.upd _ (by simp)
  generalize upd H8 la (.lst ((L.map V.str).set k (.str (Txt.join " " ws)))) = H9 at hla9 ds9 ⊢
  generalize L.set k (Txt.join " " ws) = L9 at lok9 kl9 hla9
  clear ds8 hla8 hp8 ok8 f1 f2
  have lbig : ∀ {L' : List Str} {N' : Nat}, LOk (M + 1) N' L' → (L'.map V.str).length < sizeLine := fun h => small1000 (by rw [List.length_map]; have := h.cnt; omega)
  have atk : ∀ {L' : List Str} {k : Nat} (hk : k < L'.length), (L'.map V.str)[k]? = some (.str L'[k]) := fun hk => by rw [List.getElem?_map, List.getElem?_eq_getElem hk]; rfl
  -- a line more
  refine ⟨fun σ' H' => ∃ L', DrawS K H' d sc [p, la] ∧ H' la = some (.lst (L'.map V.str)) ∧ LOk (M + 1) (N + 16) L' ∧ k < L'.length ∧ ∃ v7, σ' = [some (.ref d), some (.ref la), some (.int (k : Int)), some (.ref p), some (.int (rn : Int)), some (.ref o), some (.int (way : Int)), v7], ?_, ?_⟩
  · refine ⟨_, rfl, rfl, _, rfl, ?_⟩
    by_cases hw : way = 4
    case neg =>
      refine ifF (decide_eq_false fun e => hw (by injection e with e; omega)) ?_
      exact ⟨L9, ds9, hla9, lok9.mono (Nat.le_succ _) (Nat.le_refl _), kl9, _, rfl⟩
    refine ifT (decide_eq_true (by rw [hw]; rfl)) ?_
    refine ⟨_, rfl, .inl ⟨rfl, _, SqL.of hla9⟩, _, rfl, (by decide +kernel), fun q1 nq => ?_⟩
    have s10 := smNew1 nq (.lst (newL.map V.str))
    have ds10 := ds9.keep s10
    have qd : q1 ≠ d := fun z => ds9.hd.ne (by rw [← z]; exact nq)
    refine ⟨_, rfl, d, sc, 7, rfl, rfl, ds10.one, by decide, by decide, fun r3 H11 r30 r31 b11 d11 => ?_⟩
    obtain ⟨wd, hwd, nw, lwd⟩ := pick_of new_ok r30 (show r3 < ((newL.map V.str).length : Nat) from r31)
    have ds11 := ds10.but b11 d11
    have hla11 := b11.get lap (s10 _ _ hla9)
    refine ⟨q1, _, r3, _, rfl, rfl, SqL.of (b11.get qd upd_same), hwd, ?_⟩
    obtain ⟨g1, g2⟩ := lok9.ins (Nat.le_of_lt kl9) (w := wd) ⟨by omega, nw⟩
    refine ⟨la, _, k, _, rfl, rfl, hla11, lbig (lok9.mono (Nat.le_succ _) (Nat.le_refl _)), by omega, by omega, ?_⟩
    exact ⟨L9.take k ++ [wd] ++ L9.drop k, ds11.upd _ (by simp), by rw [upd_same, List.map_append, List.map_append, List.map_take, List.map_drop]; rfl, g1, by rw [g2]; omega, _, rfl⟩
  rintro σ' H10 ⟨L10, ds10, hla10, lok10, kl10, v7, rfl⟩
  clear ds9 hla9 lok9 kl9 L9
  -- spaces ahead
  refine ⟨fun σ' H' => ∃ L', DrawS K H' d sc [p, la] ∧ H' la = some (.lst (L'.map V.str)) ∧ LOk (M + 1) (N + 18) L' ∧ k < L'.length ∧ ∃ v7, σ' = [some (.ref d), some (.ref la), some (.int (k : Int)), some (.ref p), some (.int (rn : Int)), some (.ref o), some (.int (way : Int)), v7], ?_, ?_⟩
  · refine ⟨_, rfl, rfl, _, rfl, ?_⟩
    by_cases hw : way = 5
    case neg =>
      refine ifF (decide_eq_false fun e => hw (by injection e with e; omega)) ?_
      exact ⟨L10, ds10, hla10, lok10.mono (Nat.le_refl _) (by omega), kl10, _, rfl⟩
    refine ifT (decide_eq_true (by rw [hw]; rfl)) ?_
    refine ⟨(by decide +kernel), fun q1 nq => ?_⟩
    have s11 := smNew1 nq (.lst (spL.map V.str))
    have ds11 := ds10.keep s11
    have qd : q1 ≠ d := fun z => ds10.hd.ne (by rw [← z]; exact nq)
    refine ⟨_, rfl, d, sc, 2, rfl, rfl, ds11.one, by decide, by decide, fun r3 H12 r30 r31 b12 d12 => ?_⟩
    obtain ⟨wd, hwd, nw, lwd⟩ := pick_of sp_ok r30 (show r3 < ((spL.map V.str).length : Nat) from r31)
    have ds12 := ds11.but b12 d12
    have hla12 := b12.get lap (s11 _ _ hla10)
    have ok := lok10.each _ (List.getElem_mem kl10)
    obtain ⟨c1, c2⟩ := cl_add wd L10[k]
    refine ⟨q1, _, r3, _, rfl, rfl, SqL.of (b12.get qd upd_same), hwd, _, rfl, _, rfl, la, _, _, _, rfl, rfl, SqL.of hla12, atI_nat (atk kl10), _, _, rfl, rfl, ?_, ?_⟩
    · exact Nat.le_of_lt (small1000 (by show wd.length + L10[k].length ≤ 1000; omega))
    refine ⟨_, rfl, _, rfl, la, _, k, k, rfl, rfl, hla12, ixN_n (by rw [List.length_map]; exact kl10), ?_⟩
    exact ⟨L10.set k (wd ++ L10[k]), ds12.upd _ (by simp), by rw [upd_same, List.map_set], (lok10.mono (Nat.le_refl _) (by omega)).set k ⟨by rw [c1]; omega, c2 nw ok.2⟩, by rw [List.length_set]; exact kl10, _, rfl⟩
  rintro σ' H11 ⟨L11, ds11, hla11, lok11, kl11, v7, rfl⟩
  clear ds10 hla10 lok10 kl10 L10
  -- a line moved
  refine ⟨fun σ' H' => ∃ L', DrawS K H' d sc [p, la] ∧ H' la = some (.lst (L'.map V.str)) ∧ LOk (M + 1) (N + 18) L' ∧ k < L'.length ∧ ∃ v7, σ' = [some (.ref d), some (.ref la), some (.int (k : Int)), some (.ref p), some (.int (rn : Int)), some (.ref o), some (.int (way : Int)), v7], ?_, ?_⟩
  · refine ⟨_, rfl, rfl, _, rfl, ?_⟩
    by_cases hw : way = 6
    case neg =>
      refine ifF (decide_eq_false fun e => hw (by injection e with e; omega)) ?_
      exact ⟨L11, ds11, hla11, lok11, kl11, _, rfl⟩
    refine ifT (decide_eq_true (by rw [hw]; rfl)) ?_
    have lk11 : (L11.map V.str).length = L11.length := List.length_map ..
    refine ⟨_, rfl, .inl ⟨rfl, _, SqL.of hla11⟩, _, rfl, la, _, k, k, _, rfl, rfl, hla11, by omega, by omega, (ixN_seq (ixN_n (by rw [lk11]; exact kl11))).1, atk kl11, ?_⟩
    have le11 : (L11.eraseIdx k).length = L11.length - 1 := List.length_eraseIdx_of_lt kl11
    rw [map_eraseN]
    have ds12 := ds11.upd (.lst ((L11.eraseIdx k).map V.str)) (p := la) (by simp)
    have hla12 : (upd H11 la (.lst ((L11.eraseIdx k).map V.str))) la = some (.lst ((L11.eraseIdx k).map V.str)) := upd_same
    have lc11 := lok11.cnt
    refine ⟨_, rfl, .inl ⟨rfl, _, SqL.of hla12⟩, _, rfl, _, rfl, la, _, rfl, .inl (SqL.of hla12), _, _, rfl, rfl, d, sc, _, rfl, rfl, ds12.one, by omega, by rw [List.length_map]; omega, fun r3 H13 r30 r31 b13 d13 => ?_⟩
    obtain ⟨r, rfl⟩ := Int.eq_ofNat_of_zero_le r30
    have rl3 : r ≤ (L11.eraseIdx k).length := by rw [List.length_map] at r31; omega
    have ds13 := ds12.but b13 d13
    have hla13 := b13.get lap hla12
    obtain ⟨g1, g2⟩ := lok11.move kl11 rl3
    refine ⟨_, rfl, la, _, r, _, rfl, rfl, hla13, small1000 (by rw [List.length_map]; omega), by omega, by omega, ?_⟩
    exact ⟨(L11.eraseIdx k).take r ++ [L11[k]] ++ (L11.eraseIdx k).drop r, ds13.upd _ (by simp), by rw [upd_same, List.map_append, List.map_append, List.map_take, List.map_drop]; rfl, g1, by rw [g2]; exact kl11, _, rfl⟩
  rintro σ' H12 ⟨L12, ds12, hla12, lok12, kl12, v7, rfl⟩
  clear ds11 hla11 lok11 kl11 L11
  -- a line less
  refine ⟨fun σ' H' => ∃ L', DrawS K H' d sc [p, la] ∧ H' la = some (.lst (L'.map V.str)) ∧ LOk (M + 1) (N + 18) L' ∧ (way = 8 → k < L'.length) ∧ ∃ v7, σ' = [some (.ref d), some (.ref la), some (.int (k : Int)), some (.ref p), some (.int (rn : Int)), some (.ref o), some (.int (way : Int)), v7], ?_, ?_⟩
  · refine ⟨_, rfl, rfl, _, rfl, ?_⟩
    by_cases hw : way = 7
    case neg =>
      refine ifF (decide_eq_false fun e => hw (by injection e with e; omega)) ?_
      refine ifF rfl ?_
      exact ⟨L12, ds12, hla12, lok12, fun _ => kl12, _, rfl⟩
    refine ifT (decide_eq_true (by rw [hw]; rfl)) ?_
    have lk12 : (L12.map V.str).length = L12.length := List.length_map ..
    refine ⟨_, rfl, la, _, rfl, .inl (SqL.of hla12), _, _, rfl, rfl, _, rfl, ?_⟩
    by_cases h1 : 1 < L12.length
    case neg =>
      refine ifF (decide_eq_false (by rw [lk12]; omega)) ?_
      exact ⟨L12, ds12, hla12, lok12, fun _ => kl12, _, rfl⟩
    refine ifT (decide_eq_true (by rw [lk12]; omega)) ?_
    refine ⟨_, rfl, .inl ⟨rfl, _, SqL.of hla12⟩, _, rfl, la, _, k, k, _, rfl, rfl, hla12, by omega, by omega, (ixN_seq (ixN_n (by rw [lk12]; exact kl12))).1, atk kl12, ?_⟩
    exact ⟨L12.eraseIdx k, ds12.upd _ (by simp), by rw [upd_same, map_eraseN], lok12.erase kl12 h1, fun h => by omega, _, rfl⟩
  rintro σ' H13 ⟨L13, ds13, hla13, lok13, kl13, v7, rfl⟩
  clear ds12 hla12 lok12 kl12 L12
  -- a space behind
  refine ⟨fun σ' H' => ∃ L', DrawS K H' d sc [p, la] ∧ H' la = some (.lst (L'.map V.str)) ∧ LOk (M + 1) (N + 20) L', ?_, ?_⟩
  · refine ⟨_, rfl, rfl, _, rfl, ?_⟩
    by_cases hw : way = 8
    case neg =>
      refine ifF (decide_eq_false fun e => hw (by injection e with e; omega)) ?_
      exact ⟨L13, ds13, hla13, lok13.mono (Nat.le_refl _) (by omega)⟩
    have kl13' := kl13 hw
    refine ifT (decide_eq_true (by rw [hw]; rfl)) ?_
    have ok := lok13.each _ (List.getElem_mem kl13')
    obtain ⟨c1, c2⟩ := cl_add L13[k] " "
    refine ⟨_, rfl, _, rfl, la, _, _, _, rfl, rfl, SqL.of hla13, atI_nat (atk kl13'), _, _, rfl, rfl, ?_, ?_⟩
    · exact Nat.le_of_lt (small1000 (by show L13[k].length + (" " : Str).length ≤ 1000; rw [blank_one]; omega))
    refine ⟨_, rfl, _, rfl, la, _, k, k, rfl, rfl, hla13, ixN_n (by rw [List.length_map]; exact kl13'), ?_⟩
    exact ⟨L13.set k (L13[k] ++ " "), ds13.upd _ (by simp), by rw [upd_same, List.map_set], (lok13.mono (Nat.le_refl _) (by omega)).set k ⟨by rw [c1, blank_one]; omega, c2 ok.2 (by decide +kernel)⟩⟩
  rintro σ' H14 ⟨L14, ds14, hla14, lok14⟩
  refine q L14 H14 ⟨ds14.hd, ds14.sc.keep fun c u hc => ?_, fun q hq => ds14.ne q (List.mem_cons_of_mem _ hq)⟩ hla14 lok14
  unfold dlS at hc ⊢
  by_cases z : c ∈ [p, la]
  · rw [if_pos z] at hc; cases hc
  · rw [if_neg z] at hc
    rw [if_neg fun y => z (List.mem_cons_of_mem _ y)]
    exact hc
end
end RM

set_option Elab.async false
set_option linter.all false
set_option maxRecDepth 100000
set_option maxHeartbeats 2000000
namespace RM
open PySem PySem.Spec PyProof.Rows L2
section
variable {P : Program} {w : World} {K : PySem.W.Frag} {mg : Str → Option Value} {base : Heap}
/-! ### items of any kind -/
/-- is it a good item by its sign? -/
def goodI (c : Nat) (d : PyData) : Bool :=
  if c = 107 then (match d with | .str z => isWord z | _ => false)
  else if c = 118 then (match d with | .int n => isValue n | _ => false)
  else if c = 116 then (match d with | .int n => decide (0 ≤ n) && decide (n ≤ 3) | _ => false)
  else (match d with | .list _ => true | .tuple _ => true | _ => false)
/-- no dict; a text is short -/
def smallD : PyData → Bool
  | .str z => decide (z.length ≤ 1000)
  | .dict _ => false
  | _ => true
def spItemG (K : PySem.W.Frag) : Sp := fun vs H Q _ => match vs with
  | [x, f] => ∃ c d, f = .str ⟨#[c]⟩ ∧ (c = 107 ∨ c = 118 ∨ c = 116 ∨ c = 98) ∧ Dp K H x d ∧ smallD d = true ∧ ∀ H', Same H H' → Q (.bl (goodI c d)) H'
  | _ => False
theorem wordG {K : PySem.W.Frag} {H : Hp} {x : V} {d : PyData} {Q : VK} {E : XK} (h : Dp K H x d) (hs : smallD d = true) (q : Q (.bl (goodI 107 d)) H) : spIsWordG K [x] H Q E := by
  cases h with
  | str z => exact .inl ⟨z, rfl, Nat.le_of_lt (small1000 (by have := of_decide_eq_true hs; omega)), q⟩
  | non => exact .inr ⟨_, .non, rfl, q⟩
  | int z => exact .inr ⟨_, .int z, rfl, q⟩
  | bl z => exact .inr ⟨_, .bl z, rfl, q⟩
  | lst a b => exact .inr ⟨_, .lst a b, rfl, q⟩
  | tup a b => exact .inr ⟨_, .tup a b, rfl, q⟩
theorem valueG {K : PySem.W.Frag} {H : Hp} {x : V} {d : PyData} {Q : VK} {E : XK} (h : Dp K H x d) (hs : smallD d = true) (q : Q (.bl (goodI 118 d)) H) : spIsValueG K [x] H Q E := by
  cases h with
  | int z => exact .inl ⟨z, rfl, q⟩
  | non => exact .inr ⟨_, .non, rfl, q⟩
  | str z => exact .inr ⟨_, .str z, rfl, q⟩
  | bl z => exact .inr ⟨_, .bl z, rfl, q⟩
  | lst a b => exact .inr ⟨_, .lst a b, rfl, q⟩
  | tup a b => exact .inr ⟨_, .tup a b, rfl, q⟩
/-- isinstance(x, (list, tuple)) of any data -/
theorem ty_any {K : PySem.W.Frag} {H : Hp} {x : V} {d : PyData} (h : Dp K H x d) : ∃ ty, TyX K H x ty ∧ PySem.W.kitAny K ty [.type "list", .type "tuple"] = some (goodI 98 d) := by
  have no : ∀ {a : String}, kitB a "list" = some false → kitB a "tuple" = some false → PySem.W.kitAny K (.type a) [.type "list", .type "tuple"] = some false := fun h1 h2 =>
    kitAny_cons (b := false) (kit_ty h1) (fun _ => kitAny_cons (b := false) (kit_ty h2) (fun _ => rfl) (fun z => by cases z)) (fun z => by cases z)
  cases h with
  | non => exact ⟨_, .base .non, no (by decide +kernel) (by decide +kernel)⟩
  | bl z => exact ⟨_, .base (.bl z), no (by decide +kernel) (by decide +kernel)⟩
  | int z => exact ⟨_, .base (.int z), no (by decide +kernel) (by decide +kernel)⟩
  | str z => exact ⟨_, .base (.str z), no (by decide +kernel) (by decide +kernel)⟩
  | lst h1 _ => exact ⟨_, tyL h1, kitAny_cons (b := true) (kit_ty (by decide +kernel)) (fun z => by cases z) (fun _ => rfl)⟩
  | tup h1 _ => exact ⟨_, tyT h1, kitAny_cons (b := false) (kit_ty (by decide +kernel)) (fun _ => kitAny_cons (b := true) (kit_ty (by decide +kernel)) (fun z => by cases z) (fun _ => rfl)) (fun z => by cases z)⟩
theorem cg_is_item (T : Top w K mg) : Cal P w K mg base CX0 2 "is_item" (spItemG K) := by
  refine cal_0 (f_is_item T) (g_is_item T) sc_is_item (fun _ _ _ _ _ _ us hl => match us, hl with | [_, _], _ => rfl) (fun vs H Q E h => match vs, h with | [_, _], _ => rfl) (fun cdv A outer s H vs Q E hr h => ?_)
  match vs, h with
  | [x, f], h =>
  obtain ⟨c, d, rfl, hc, hx, hs, q⟩ := h
  refine ⟨_, (pss_cons (ps_if (pt_cmpR op_eq (pv 1) pe_str (nomark _))
      (pss_one (ps_ret (pc (cg_is_word T) hr (pa_cons (pv 0) pa_nil))))
      pss_nil)
    (pss_cons (ps_if (pt_cmpR op_eq (pv 1) pe_str (nomark _))
      (pss_one (ps_ret (pc (cg_is_value T) hr (pa_cons (pv 0) pa_nil))))
      pss_nil)
    (pss_cons (ps_if (pt_cmpR op_eq (pv 1) pe_str (nomark _))
      (pss_one (ps_ret (pe_and (pc (cg_is_value T) hr (pa_cons (pv 0) pa_nil)) (pe_one (pe_chain op_le op_le pe_int (pv 0) pe_int)))))
      pss_nil)
    (pss_one (ps_ret (pcb (z_isinstance T) call_isiT boot_isinstance (pa_cons (pv 0) (pa_cons (pe_tup (pa_cons (pty (z_list T) boot_list) (pa_cons (pty (z_tuple T) boot_tuple) pa_nil))) pa_nil)))))))), ?_⟩
  have q0 := q H (Same.refl H)
  rcases hc with rfl | rfl | rfl | rfl
  · refine ⟨_, rfl, rfl, _, rfl, ifT (by decide +kernel) ?_⟩
    exact ⟨_, rfl, wordG hx hs q0⟩
  · refine ⟨_, rfl, rfl, _, rfl, ifF (by decide +kernel) ?_⟩
    refine ⟨_, rfl, rfl, _, rfl, ifT (by decide +kernel) ?_⟩
    exact ⟨_, rfl, valueG hx hs q0⟩
  · refine ⟨_, rfl, rfl, _, rfl, ifF (by decide +kernel) ?_⟩
    refine ⟨_, rfl, rfl, _, rfl, ifF (by decide +kernel) ?_⟩
    refine ⟨_, rfl, rfl, _, rfl, ifT (by decide +kernel) ?_⟩
    refine ⟨_, rfl, valueG hx hs ⟨_, rfl, ?_⟩⟩
    by_cases hi : ∃ n, d = .int n
    case neg =>
      have e : goodI 118 d = false := by
        cases d <;> first | rfl | exact absurd ⟨_, rfl⟩ hi
      have e2 : goodI 116 d = false := by
        cases d <;> first | rfl | exact absurd ⟨_, rfl⟩ hi
      rw [e]
      rw [e2] at q0
      exact ifF rfl q0
    obtain ⟨n, rfl⟩ := hi
    obtain rfl := Dp.int_inv hx
    by_cases hv : isValue n = true
    case neg =>
      have e : goodI 118 (.int n) = false := by
        show isValue n = false
        simpa using hv
      have e2 : goodI 116 (.int n) = false := by
        show (decide (0 ≤ n) && decide (n ≤ 3)) = false
        cases z : (decide (0 ≤ n) && decide (n ≤ 3)) with
        | false => rfl
        | true => exact absurd (isValue_rep z) hv
      rw [e]
      rw [e2] at q0
      exact ifF rfl q0
    refine ifT hv ?_
    refine ⟨_, rfl, _, _, rfl, rfl, _, rfl, ?_⟩
    have e2 : goodI 116 (.int n) = (decide (0 ≤ n) && decide (n ≤ 3)) := rfl
    rw [e2] at q0
    by_cases h0 : 0 ≤ n
    · rw [decide_eq_true h0] at q0 ⊢
      exact ifT rfl ⟨_, _, rfl, rfl, q0⟩
    · rw [decide_eq_false h0] at q0 ⊢
      exact ifF rfl q0
  · refine ⟨_, rfl, rfl, _, rfl, ifF (by decide +kernel) ?_⟩
    refine ⟨_, rfl, rfl, _, rfl, ifF (by decide +kernel) ?_⟩
    refine ⟨_, rfl, rfl, _, rfl, ifF (by decide +kernel) ?_⟩
    refine ⟨_, rfl, (by show 2 ≤ sizeLine; decide), fun p hp => ?_⟩
    have s1 : Same H (upd H p (.tup [.ty "list", .ty "tuple"])) := smNew1 hp _
    obtain ⟨ty, h1, h2⟩ := ty_any (Dp.keep s1 hx)
    exact ⟨_, p, _, _, [.type "list", .type "tuple"], _, rfl, upd_same, .cons (.ty _) (.cons (.ty _) .nil), h1, h2, q _ s1⟩
/-! ### statements of any kind -/
/-- the items of a tuple with the word of s -/
def goodT (s : Stm) (ds : List PyData) : Bool := decide (ds.length = s.signs.length) && (List.zipWith goodI s.signs ds).all id
/-- no tuple, an empty one, or one with a word that is none -/
inductive Odd : PyData → Prop where
  | non : Odd .none
  | bl (b : Bool) : Odd (.bool b)
  | int (n : Int) : Odd (.int n)
  | str (z : Str) : Odd (.str z)
  | lst (l : List PyData) : Odd (.list l)
  | nil : Odd (.tuple [])
  | loop (ds : List PyData) : Odd (.tuple (.str "loop" :: ds))
def smallsD (ds : List PyData) : Prop := ∀ d ∈ ds, smallD d = true
def spStmG (K : PySem.W.Frag) : Sp := fun vs H Q _ => match vs with
  | [x] => (∃ (s : Stm) (ds : List PyData), Dp K H x (.tuple (.str s.word :: ds)) ∧ smallsD ds ∧ ds.length ≤ 1000 ∧ ∀ H', Same H H' → Q (.bl (goodT s ds)) H') ∨ ∃ d, Dp K H x d ∧ Odd d ∧ Q (.bl false) H
  | _ => False
theorem sign_one (s : Stm) {i c : Nat} (h : s.signs[i]? = some c) : c = 107 ∨ c = 118 ∨ c = 116 ∨ c = 98 := by
  have key : ∀ c ∈ s.signs, c = 107 ∨ c = 118 ∨ c = 116 ∨ c = 98 := by cases s <;> (intro c hc; simp [Stm.signs] at hc <;> try omega)
  exact key c (List.mem_of_getElem? h)
theorem signs_size (s : Stm) : s.form.cps.size = s.signs.length := by rw [← signs_eq]; rfl
theorem paired_bl : ∀ {ys : List V} {bs : List Bool}, Paired (fun y b => y = V.bl b) ys bs → ys = bs.map V.bl
  | _, _, .nil => rfl
  | _, _, .cons h t => by rw [h, paired_bl t]; rfl
theorem not_loop (T : Top w K mg) : PySem.W.nsIn K (He.ga K "FORMS") "loop" = some none := He.eqO_ok (no_loop T)
theorem cg_is_statement (T : Top w K mg) : Cal P w K mg base CX0 3 "is_statement" (spStmG K) := by
  refine cal_0 (f_is_statement T) (g_is_statement T) sc_is_statement (fun _ _ _ _ _ _ us hl => match us, hl with | [_], _ => rfl) (fun vs H Q E h => match vs, h with | [_], _ => rfl) (fun cdv A outer s H vs Q E hr h => ?_)
  match vs, h with
  | [x], h =>
  obtain ⟨es0, m0, D, _⟩ := forms T .wait
  rcases h with ⟨s, ds, hd, hs, hl, q⟩ | ⟨d, hd, ho, q⟩
  case inr =>
    refine ⟨_, (pss_cons (ps_if (PW.pt (pw_or (pt_not (pt_val (pcb (z_isinstance T) call_isi boot_isinstance (pa_cons (pv 0) (pa_cons (pty (z_tuple T) boot_tuple) pa_nil))))) (pw_or (pt_not (pt_truth (pv 0) (by intro _; rfl))) (pw_or (pt_not (pt_val (pcb (z_isinstance T) call_isi boot_isinstance (pa_cons (pe_ix ix_tup (pv 0) pe_int (fun _ _ => rfl)) (pa_cons (pty (z_str T) boot_str) pa_nil))))) (pw_or1 (pt_cmpR (op_notIn_kd D) (pe_ix ix_tup (pv 0) pe_int (fun _ _ => rfl)) (pglR (g_FORMS T)) rfl))))))
      (pss_one (ps_ret pe_bl))
      pss_nil)
    (pss_cons (ps_set (i := 1) sc_is_statement.nd rfl (Or.inl rfl) (pe_ix ix_kdict (pglR (g_FORMS T)) (pe_ix ix_tup (pv 0) pe_int (fun _ _ => rfl)) (fun _ _ => rfl)))
    (pss_cons (ps_if (pt_cmpR op_ne (pcb (z_len T) call_len_seq boot_len (pa_cons (pv 0) pa_nil)) (pe_op op_add (pcb (z_len T) call_len_str boot_len (pa_cons (pv 1) pa_nil)) pe_int) (nomark _))
      (pss_one (ps_ret pe_bl))
      pss_nil)
    (pss_one (ps_ret (pcb (z_all T) (cr_all rfl) boot_all (pa_cons (pe_lc (own := [("item", 2), ("sign", 3)]) rfl sc_is_statement.nd (pi_zipTS (by rfl) (z_zip T) (pa_cons (pe_slice sl_tup (pv 0) (po_some pe_int) po_none) (pa_cons (pv 1) pa_nil))) (blkOk_by (own := [("item", 2), ("sign", 3)]) (N := ["value", "form", "item", "sign"]) (sc := defScope s_is_statement) (by decide +kernel)) (fun _ _ _ _ _ => (pg_tup' (n := 2) (K := K) rfl rfl (pgs_cons (pg_name (i := 2) sc_is_statement.nd rfl (Or.inl rfl) (Or.inr rfl)) (pgs_cons (pg_name (i := 3) sc_is_statement.nd rfl (Or.inl rfl) (Or.inr rfl)) pgs_nil)) rfl rfl)) (fun _ _ _ _ _ => pts_nil) (fun _ _ _ _ _ => (pc (cg_is_item T) hr (pa_cons (pv 2) (pa_cons (pv 3) pa_nil))))) pa_nil))))))), ?_⟩
    cases ho with
    | non => cases hd; exact ⟨_, rfl, _, _, _, _, false, rfl, .ty _, .base .non, kit_ty (by decide +kernel), _, rfl, iteT q⟩
    | bl b => cases hd; exact ⟨_, rfl, _, _, _, _, false, rfl, .ty _, .base (.bl b), kit_ty (by decide +kernel), _, rfl, iteT q⟩
    | int b => cases hd; exact ⟨_, rfl, _, _, _, _, false, rfl, .ty _, .base (.int b), kit_ty (by decide +kernel), _, rfl, iteT q⟩
    | str b => cases hd; exact ⟨_, rfl, _, _, _, _, false, rfl, .ty _, .base (.str b), kit_ty (by decide +kernel), _, rfl, iteT q⟩
    | lst b =>
      obtain ⟨a, xs, rfl, h1, _⟩ := Dp.lst_inv hd
      exact ⟨_, rfl, _, _, _, _, false, rfl, .ty _, tyL h1, kit_ty (by decide +kernel), _, rfl, iteT q⟩
    | nil =>
      obtain ⟨a, xs, rfl, ha, hx⟩ := Dp.tup_inv hd
      obtain rfl := DpAll.nil_inv hx
      refine ⟨_, rfl, _, _, _, _, true, rfl, .ty _, tyT ha, kit_ty (by decide +kernel), _, rfl, iteF ?_⟩
      exact ⟨_, rfl, false, Or.inr (Or.inl ⟨_, ha, rfl⟩), iteT q⟩
    | loop ds =>
      obtain ⟨a, xs, rfl, ha, hx⟩ := Dp.tup_inv hd
      obtain ⟨v, r, rfl, h1, h2⟩ := DpAll.cons_inv hx
      obtain rfl := Dp.str_inv h1
      refine ⟨_, rfl, _, _, _, _, true, rfl, .ty _, tyT ha, kit_ty (by decide +kernel), _, rfl, iteF ?_⟩
      refine ⟨_, rfl, true, Or.inr (Or.inl ⟨_, ha, rfl⟩), iteF ?_⟩
      refine ⟨_, rfl, _, _, _, _, rfl, rfl, ha, at0, ?_⟩
      refine ⟨_, _, _, _, true, rfl, .ty _, .base (.str _), kit_ty (by decide +kernel), _, rfl, iteF ?_⟩
      exact ⟨_, rfl, _, _, _, _, rfl, rfl, ha, at0, _, _, rfl, rfl, not_loop T, _, rfl, iteT q⟩
  obtain ⟨es, m, D, u, hu, ru⟩ := forms T s
  obtain ⟨a, xs0, rfl, ha, hx0⟩ := Dp.tup_inv hd
  obtain ⟨v, xs, rfl, h1, hx⟩ := DpAll.cons_inv hx0
  obtain rfl := Dp.str_inv h1
  refine ⟨_, (pss_cons (ps_if (PW.pt (pw_or (pt_not (pt_val (pcb (z_isinstance T) call_isi boot_isinstance (pa_cons (pv 0) (pa_cons (pty (z_tuple T) boot_tuple) pa_nil))))) (pw_or (pt_not (pt_truth (pv 0) (by intro _; rfl))) (pw_or (pt_not (pt_val (pcb (z_isinstance T) call_isi boot_isinstance (pa_cons (pe_ix ix_tup (pv 0) pe_int (fun _ _ => rfl)) (pa_cons (pty (z_str T) boot_str) pa_nil))))) (pw_or1 (pt_cmpR (op_notIn_kd D) (pe_ix ix_tup (pv 0) pe_int (fun _ _ => rfl)) (pglR (g_FORMS T)) rfl))))))
      (pss_one (ps_ret pe_bl))
      pss_nil)
    (pss_cons (ps_set (i := 1) sc_is_statement.nd rfl (Or.inl rfl) (pe_ix ix_kdict (pglR (g_FORMS T)) (pe_ix ix_tup (pv 0) pe_int (fun _ _ => rfl)) (fun _ _ => rfl)))
    (pss_cons (ps_if (pt_cmpR op_ne (pcb (z_len T) call_len_seq boot_len (pa_cons (pv 0) pa_nil)) (pe_op op_add (pcb (z_len T) call_len_str boot_len (pa_cons (pv 1) pa_nil)) pe_int) (nomark _))
      (pss_one (ps_ret pe_bl))
      pss_nil)
    (pss_one (ps_ret (pcb (z_all T) (cr_all rfl) boot_all (pa_cons (pe_lc (own := [("item", 2), ("sign", 3)]) rfl sc_is_statement.nd (pi_zipTS (by rfl) (z_zip T) (pa_cons (pe_slice sl_tup (pv 0) (po_some pe_int) po_none) (pa_cons (pv 1) pa_nil))) (blkOk_by (own := [("item", 2), ("sign", 3)]) (N := ["value", "form", "item", "sign"]) (sc := defScope s_is_statement) (by decide +kernel)) (fun _ _ _ _ _ => (pg_tup' (n := 2) (K := K) rfl rfl (pgs_cons (pg_name (i := 2) sc_is_statement.nd rfl (Or.inl rfl) (Or.inr rfl)) (pgs_cons (pg_name (i := 3) sc_is_statement.nd rfl (Or.inl rfl) (Or.inr rfl)) pgs_nil)) rfl rfl)) (fun _ _ _ _ _ => pts_nil) (fun _ _ _ _ _ => (pc (cg_is_item T) hr (pa_cons (pv 2) (pa_cons (pv 3) pa_nil))))) pa_nil))))))), ?_⟩
  refine ⟨_, rfl, _, _, _, _, true, rfl, .ty _, tyT ha, kit_ty (by decide +kernel), _, rfl, iteF ?_⟩
  refine ⟨_, rfl, true, Or.inr (Or.inl ⟨_, ha, rfl⟩), iteF ?_⟩
  refine ⟨_, rfl, _, _, _, _, rfl, rfl, ha, at0, ?_⟩
  refine ⟨_, _, _, _, true, rfl, .ty _, .base (.str _), kit_ty (by decide +kernel), _, rfl, iteF ?_⟩
  refine ⟨_, rfl, _, _, _, _, rfl, rfl, ha, at0, _, _, rfl, rfl, hu, _, rfl, iteF ?_⟩
  refine ⟨_, rfl, _, _, _, _, rfl, rfl, ha, at0, _, _, _, rfl, rfl, ⟨es, m, u, D.1, D.2, hu, ru⟩, ?_⟩
  have lx := DpAll.len hx
  have sz := signs_size s
  refine ⟨_, rfl, _, _, rfl, .inr ha, _, rfl, _, rfl, (word_sz s).2, _, _, rfl, rfl, rfl, _, rfl, ?_⟩
  by_cases c : ds.length = s.signs.length
  case neg =>
    refine ifT ?_ ?_
    · rw [Bool.not_eq_true', decide_eq_false_iff_not]
      intro e
      have e2 : (((V.str s.word :: xs).length : Nat) : Int) = (s.form.length : Int) + 1 := V.int.inj e
      rw [List.length_cons] at e2
      have : s.form.length = s.form.cps.size := rfl
      omega
    · have q0 := q H (Same.refl H)
      unfold goodT at q0
      rw [decide_eq_false c] at q0
      exact q0
  refine ifF ?_ ?_
  · rw [Bool.not_eq_false', decide_eq_true_eq]
    show V.int (((V.str s.word :: xs).length : Nat) : Int) = V.int ((s.form.length : Int) + 1)
    rw [List.length_cons, lx, c, ← sz]
    rfl
  refine ⟨_, rfl, _, rfl, _, _, rfl, ha, cut_not, fun p hp => ?_⟩
  rw [cut_tail]
  have s1 : Same H (upd H p (.tup xs)) := smNew1 hp _
  refine ⟨_, rfl, _, xs, _, rfl, SqT.of upd_same, fun D nD => ?_⟩
  have hl' : xs.length = s.form.cps.size := by omega
  refine lc_opt (walk_zipTS hl') (fun (b : Bool) y _ => y = .bl b) (fun i => (List.zipWith goodI s.signs ds)[i]?) nD (small1000 (by omega)) (fun H' e => smT e (SqT.of upd_same)) (fun _ _ _ _ h _ => h) (fun _ _ _ _ _ h _ => h) ?_ ?_
  · rintro i x H1 H2 N hi e ⟨t, y, z, rfl, ht, rfl, hy, hz⟩ hk _
    obtain ⟨c1, hc1, rfl⟩ := Option.map_eq_some_iff.mp hz
    have hsg := sign_at hc1
    obtain ⟨d, hd1, hd2⟩ := DpAll.getV hx hy
    refine ⟨t, _, rfl, SqT.of upd_same, rfl, _, _, rfl, _, _, rfl, rfl, rfl, ?_⟩
    refine yesI ?_
    have sx : Same H (upd H1 t (.tup [y, .str ⟨#[c1]⟩])) := smNew (fun b o q => e b o (s1 b o q)) ht _
    refine ⟨_, rfl, _, rfl, c1, d, rfl, sign_one s hsg, Dp.keep sx hd2, hs d (List.mem_of_getElem? hd1), fun H3 s3 => ?_⟩
    refine hk _ _ (goodI c1 d) ?_ (fun b o q => s3 b o (smNew1 ht _ b o q)) rfl
    rw [List.getElem?_zipWith, hsg, hd1]
  · intro H' ys e hD hp'
    have ez : xs.length = (List.zipWith goodI s.signs ds).length := by rw [List.length_zipWith]; omega
    rw [ez, some_range] at hp'
    rw [paired_bl hp'] at hD
    have e3 : goodT s ds = (List.zipWith goodI s.signs ds).all id := by unfold goodT; rw [decide_eq_true c]; rfl
    have q1 := q H' fun b o z => e _ _ (s1 b o z)
    rw [e3] at q1
    exact ⟨_, _, rfl, SqL.of hD, q1⟩
end
end RM

set_option Elab.async false
set_option linter.all false
set_option maxRecDepth 100000
set_option maxHeartbeats 2000000
namespace RM
open PySem PySem.Spec PyProof.Rows L2
section
variable {P : Program} {w : World} {K : PySem.W.Frag} {mg : Str → Option Value} {base : Heap}
theorem sc_BadStatement_init : FnScope ["self", "path"] ["self", "path"] (defScope s_BadStatement_init) := ⟨rfl, rfl, rfl, by decide +kernel, rfl, by decide +kernel, by decide +kernel⟩
theorem c_BadStatement_init (T : Top w K mg) : Exo P w K mg base 1 "BadStatement" (He.ga K "BadStatement") (spExo (He.ga K "BadStatement") "path") := by
  refine exo_0 (f_BadStatement_init T) (oexB_ok (oex_BadStatement T)) (me_BadStatement_init T) (g_BadStatement T) sc_BadStatement_init (fun _ _ _ _ _ _ us hl => match us, hl with | [_, _], _ => rfl) (fun vs H Q E h => match vs, h with | [_, _], _ => rfl) (fun cdv A outer s H vs Q E hr h => ?_)
  match vs, h with
  | [x, v], h =>
  obtain ⟨a, rfl, ha, q⟩ := h
  refine ⟨_, (pss_one (ps_ost (pv 0) (pv 1))), ?_⟩
  exact ⟨_, rfl, _, rfl, a, _, rfl, oexB_ok (oex_BadStatement T), na_BadStatement_path T, .inl ⟨ha, fun dx h1 h2 => q dx h1 h2⟩⟩
/-! ### bodies_of, of any right tuple -/
def sel98 (s : Stm) (ds : List PyData) : List PyData := (List.range ds.length).filterMap fun i => if s.signs[i]? = some 98 then ds[i]? else none
def spBodG (K : PySem.W.Frag) : Sp := fun vs H Q _ => match vs with
  | [x] => ∃ (s : Stm) (ds : List PyData), Dp K H x (.tuple (.str s.word :: ds)) ∧ ds.length = s.signs.length ∧
    ∀ p H' ys, Same H H' → H p = none → H' p = some (.lst ys) → DpAll K H ys (sel98 s ds) → Q (.ref p) H'
  | _ => False
theorem cg_bodies_of (T : Top w K mg) : Cal P w K mg base CX0 1 "bodies_of" (spBodG K) := by
  refine cal_0 (f_bodies_of T) (g_bodies_of T) sc_bodies_of (fun _ _ _ _ _ _ us hl => match us, hl with | [_], _ => rfl) (fun vs H Q E h => match vs, h with | [_], _ => rfl) (fun cdv A outer s H vs Q E hr h => ?_)
  match vs, h with
  | [x], h =>
  obtain ⟨s, ds, hd, hl0, q⟩ := h
  obtain ⟨a, xs0, rfl, ha, hx0⟩ := Dp.tup_inv hd
  obtain ⟨v, xs, rfl, h1, hx⟩ := DpAll.cons_inv hx0
  obtain rfl := Dp.str_inv h1
  have hl : xs.length = s.form.cps.size := by rw [DpAll.len hx, hl0, signs_size]
  have i4 := form_five s
  refine ⟨_, (pss_one (ps_ret (pe_lc (own := [("item", 1), ("sign", 2)]) rfl sc_bodies_of.nd (pi_zipTS (by rfl) (z_zip T) (pa_cons (pe_slice sl_tup (pv 0) (po_some pe_int) po_none) (pa_cons (pe_ix ix_kdict (pglR (g_FORMS T)) (pe_ix ix_tup (pv 0) pe_int (fun _ _ => rfl)) (fun _ _ => rfl)) pa_nil))) (blkOk_by (own := [("item", 1), ("sign", 2)]) (N := ["statement", "item", "sign"]) (sc := defScope s_bodies_of) (by decide +kernel)) (fun _ _ _ _ _ => (pg_tup' (n := 2) (K := K) rfl rfl (pgs_cons (pg_name (i := 1) sc_bodies_of.nd rfl (Or.inl rfl) (Or.inr rfl)) (pgs_cons (pg_name (i := 2) sc_bodies_of.nd rfl (Or.inl rfl) (Or.inr rfl)) pgs_nil)) rfl rfl)) (fun _ _ _ _ _ => (pts_one (pt_cmpR op_eq (pv 2) pe_str (nomark _)))) (fun _ _ _ _ _ => (pv 1))))), ?_⟩
  refine ⟨_, rfl, _, rfl, _, _, rfl, ha, cut_not, fun p hp => ?_⟩
  rw [cut_tail]
  have s1 : Same H (upd H p (.tup xs)) := smNew1 hp _
  refine ⟨_, rfl, _, _, _, _, rfl, rfl, smT s1 ha, at0, _, _, _, rfl, rfl, kd_form T s, ?_⟩
  refine ⟨_, xs, _, rfl, SqT.of upd_same, fun D nD => ?_⟩
  have hDn : H D = none := s1.free nD
  refine lc_opt (walk_zipTS hl) (fun (d : PyData) y _ => Dp K H y d) (fun i => if s.signs[i]? = some 98 then ds[i]? else none) nD (small1000 (by omega)) (fun H' e => smT e (SqT.of upd_same)) (fun _ _ _ _ h _ => h) (fun _ _ _ _ _ h _ => h) ?_ ?_
  · rintro i x H1 H2 N hi e ⟨t, y, z, rfl, ht, rfl, hy, hz⟩ hk hno
    obtain ⟨c, hc, rfl⟩ := Option.map_eq_some_iff.mp hz
    have hs := sign_at hc
    refine ⟨t, _, rfl, SqT.of upd_same, rfl, _, _, rfl, _, _, rfl, rfl, rfl, _, rfl, ?_⟩
    obtain ⟨d, hd1, hd2⟩ := DpAll.getV hx hy
    by_cases c98 : c = 98
    · subst c98
      refine ⟨rfl, _, rfl, ifT (by rw [str_b, sgn]; rfl) ?_⟩
      exact ⟨_, rfl, hk _ _ d (by rw [hs, if_pos rfl]; exact hd1) (smNew1 ht _) hd2⟩
    · refine ⟨rfl, _, rfl, ifF (by rw [str_b, sgn]; exact decide_eq_false c98) ?_⟩
      exact hno (by rw [hs, if_neg (fun z => c98 (Option.some.inj z))]) _ (smNew1 ht _)
  · intro H' ys e hD hp'
    rw [DpAll.len hx] at hp'
    exact q D H' ys (fun b o z => e _ _ (s1 b o z)) hDn hD (paired_dp hp')
/-! ### check_body, of any body -/
/-- a body with a first wrong statement: there (odd), or within the repeat there -/
inductive Bad where
  | odd (pre : List Stm) (d : PyData) (post : List PyData)
  | rep (pre : List Stm) (n : Int) (b : Bad) (post : List PyData)
/-- no statement -/
def BadS (d : PyData) : Prop := Odd d ∨ ∃ s ds, d = .tuple (.str (Stm.word s) :: ds) ∧ smallsD ds ∧ ds.length ≤ 1000 ∧ goodT s ds = false
namespace Bad
def enc : Bad → List PyData
  | .odd pre d post => encB true pre ++ d :: post
  | .rep pre n b post => encB true pre ++ .tuple [.str "repeat", .int n, .list b.enc] :: post
/-- the path of the wrong statement -/
def path (p : List Int) : Bad → List Int
  | .odd pre _ _ => p ++ [(pre.length : Int)]
  | .rep pre _ b _ => b.path (p ++ [(pre.length : Int)] ++ [0])
def pre : Bad → List Stm
  | .odd pre _ _ => pre
  | .rep pre _ _ _ => pre
/-- the statement that is wrong or holds the wrong one -/
def at_ : Bad → PyData
  | .odd _ d _ => d
  | .rep _ n b _ => .tuple [.str "repeat", .int n, .list b.enc]
def post : Bad → List PyData
  | .odd _ _ post => post
  | .rep _ _ _ post => post
/-- how deep what is looked at goes -/
def deep : Bad → Nat
  | .odd pre _ _ => dB pre
  | .rep pre _ b _ => max (dB pre) (b.deep + 1)
def ok : Bad → Prop
  | .odd pre d _ => wB pre = true ∧ BadS d
  | .rep pre n b _ => wB pre = true ∧ (0 ≤ n ∧ n ≤ 3) ∧ b.ok
theorem enc_eq (b : Bad) : b.enc = encB true b.pre ++ b.at_ :: b.post := by cases b <;> rfl
theorem ok_pre {b : Bad} (h : b.ok) : wB b.pre = true := by cases b <;> exact h.1
theorem deep_pre (b : Bad) : dB b.pre ≤ b.deep := by
  cases b with
  | odd => exact Nat.le_refl _
  | rep => exact Nat.le_max_left _ _
end Bad
theorem sel_body {s : Stm} (f : List Stm → PyData) : sel98 s (s.flats ++ s.bodies.map f) = s.bodies.map f := bodies_sel s f
theorem goodT_stm {s : Stm} (fl : Bool) (h : wl s = true) : goodT s (s.flats ++ s.bodies.map fun b => seqD fl (encB fl b)) = true := by
  have g : ∀ b : List Stm, goodI 98 (seqD fl (encB fl b)) = true := fun b => by cases fl <;> rfl
  unfold goodT
  rw [items_len, decide_eq_true rfl, Bool.true_and]
  cases s <;> simp only [wl, Bool.and_eq_true] at h <;> simp only [Stm.signs, Stm.flats, Stm.bodies, List.map_cons, List.map_nil, List.cons_append, List.nil_append, List.zipWith_cons_cons, List.zipWith_nil_left, List.all_cons, List.all_nil, id, Bool.and_true, Bool.and_eq_true, g]
  · exact And.intro h.1 h.2
  · exact And.intro h.1 h.2
  · exact And.intro h.1 h.2
  · exact h
  · exact h
  · exact And.intro h.1 h.2
  · exact And.intro h.1 h.2
  · show (decide _ && decide _) = true
    rw [h.1, h.2]
    rfl
theorem smalls_stm {s : Stm} (fl : Bool) (h : wl s = true) : smallsD (s.flats ++ s.bodies.map fun b => seqD fl (encB fl b)) := by
  have g : ∀ b : List Stm, smallD (seqD fl (encB fl b)) = true := fun b => by cases fl <;> rfl
  have z : ∀ {v : Str}, isWord v = true → smallD (.str v) = true := fun {v} hv => by
    show decide (v.length ≤ 1000) = true
    have := isWord_len hv
    exact decide_eq_true (by omega)
  intro d hd
  rcases List.mem_append.mp hd with hd | hd
  · cases s <;> simp only [wl, Bool.and_eq_true] at h <;> simp only [Stm.flats, List.mem_cons, List.not_mem_nil, or_false] at hd
    · rcases hd with rfl | rfl
      · exact z h.1
      · exact z h.2
    · rcases hd with rfl | rfl
      · exact z h.1
      · rfl
    · rcases hd with rfl | rfl
      · exact z h.1
      · exact z h.2
    · rw [hd]; exact z h
    · rw [hd]; rfl
    · rcases hd with rfl | rfl
      · exact z h.1
      · rfl
    · rcases hd with rfl | rfl
      · exact z h.1
      · exact z h.2
    · rw [hd]; rfl
  · obtain ⟨b, _, rfl⟩ := List.mem_map.mp hd
    exact g b
def spCheckG (K : PySem.W.Frag) (n : Nat) : Sp := fun vs H Q E => match vs with
  | [b, p] => ∃ (fl : Bool) (pth : List Int), Dp K H p (pathD pth) ∧ pth.length + 2 * n ≤ 1000 ∧
    ((∃ l : List Stm, Dp K H b (seqD fl (encB true l)) ∧ wB l = true ∧ dB l ≤ n ∧ ∀ H', Same H H' → Q .non H') ∨
     (∃ c : Bad, Dp K H b (seqD fl c.enc) ∧ c.ok ∧ c.deep ≤ n ∧ ∀ d H' v, H d = none → Same H H' → H' d = some (.xd [("path", v)]) → Dp K H' v (pathD (c.path pth)) → E (.ref (He.ga K "BadStatement")) (some d) H'))
  | _ => False
theorem ok_checkG (T : Top w K mg) {n : Nat} (ih : Cal P w K mg base (L2.CX P w) (n + 4) "check_body" (spCheckG K n)) : Cal P w K mg base (L2.CX P w) (n + 5) "check_body" (spCheckG K (n + 1)) := by
  refine cal_X (f_check_body T) (g_check_body T) sc_check_body (fun _ _ _ _ _ _ us hl => match us, hl with | [_, _], _ => rfl) (fun vs H Q E h => match vs, h with | [_, _], _ => rfl) (fun cdv A outer s H vs Q E hr h => ?_)
  match vs, h with
  | [b, p], h =>
  obtain ⟨fl, pth, hp, hlen, h⟩ := h
  refine ⟨_, (pss_one (ps_for (passes_of rfl) rfl (pi_enumA (by rfl) (z_enumerate T) (pa_cons (pv 0) pa_nil)) (pg_tup rfl (pgs_cons (pg_name (i := 2) sc_check_body.nd rfl (Or.inl rfl)) (pgs_cons (pg_name (i := 3) sc_check_body.nd rfl (Or.inl rfl)) pgs_nil)))
      (pss_cons (ps_set (i := 4) sc_check_body.nd rfl (Or.inl rfl) (pe_op op_catG (pv 1) (pe_tup (pa_cons (pv 2) pa_nil))))
    (pss_cons (ps_if (pt_not (pt_val (pc (cg_is_statement T) hr (pa_cons (pv 3) pa_nil))))
      (pss_one (ps_raiseX (takes_of rfl rfl rfl rfl) (c_BadStatement_init T) hr (pa_cons (pv 4) pa_nil)))
      pss_nil)
    (pss_one (ps_for (passes_of rfl) rfl (pi_enumA (by rfl) (z_enumerate T) (pa_cons (pc (cg_bodies_of T) hr (pa_cons (pv 3) pa_nil)) pa_nil)) (pg_tup rfl (pgs_cons (pg_name (i := 5) sc_check_body.nd rfl (Or.inl rfl)) (pgs_cons (pg_name (i := 6) sc_check_body.nd rfl (Or.inl rfl)) pgs_nil)))
      (pss_one (ps_expr (pcX (takes_of rfl rfl rfl rfl) ih hr (pa_cons (pv 6) (pa_cons (pe_op op_catG (pv 4) (pe_tup (pa_cons (pv 5) pa_nil))) pa_nil))))))))))), ?_⟩
  obtain ⟨pre, ds, hb, hw, hn, hk⟩ : ∃ (pre : List Stm) (ds : List PyData), Dp K H b (seqD fl ds) ∧ wB pre = true ∧ dB pre ≤ n + 1 ∧ ((ds = encB true pre ∧ ∀ H', Same H H' → Q .non H') ∨
      ∃ c : Bad, pre = c.pre ∧ ds = c.enc ∧ c.ok ∧ c.deep ≤ n + 1 ∧ ∀ d H' v, H d = none → Same H H' → H' d = some (.xd [("path", v)]) → Dp K H' v (pathD (c.path pth)) → E (.ref (He.ga K "BadStatement")) (some d) H') := by
    rcases h with ⟨l, h1, h2, h3, h4⟩ | ⟨c, h1, h2, h3, h4⟩
    · exact ⟨l, _, h1, h2, h3, .inl ⟨rfl, h4⟩⟩
    · exact ⟨c.pre, _, h1, Bad.ok_pre h2, Nat.le_trans c.deep_pre h3, .inr ⟨c, rfl, rfl, h2, h3, h4⟩⟩
  obtain ⟨a, xs, rfl, ha, hx⟩ := seqD_inv hb
  have lx := DpAll.len hx
  have lp : pre.length = ds.length ∨ pre.length < ds.length := by
    rcases hk with ⟨rfl, _⟩ | ⟨c, rfl, rfl, _⟩
    · exact .inl (by rw [encB_map, List.length_map])
    · exact .inr (by rw [c.enc_eq, List.length_append, encB_map, List.length_map, List.length_cons]; omega)
  have atp : ∀ {i : Nat} {d : PyData}, ds[i]? = some d → i < pre.length → ∃ st, pre[i]? = some st ∧ d = encS true st := by
    intro i d hd hi
    have e : (encB true pre)[i]? = some d := by
      rcases hk with ⟨rfl, _⟩ | ⟨c, rfl, rfl, _⟩
      · exact hd
      · rw [c.enc_eq, List.getElem?_append_left (by rw [encB_map, List.length_map]; exact hi)] at hd
        exact hd
    exact encB_get e
  refine ⟨_, rfl, ?_⟩
  refine enumA_of ha (Same.refl _) fun J wk => ?_
  refine for_it wk (fun i σ H' => i ≤ pre.length ∧ Same H H' ∧ ∃ v2 v3 v4 v5 v6, σ = [some (.ref a), some p, v2, v3, v4, v5, v6]) ⟨Nat.zero_le _, Same.refl H, _, _, _, _, _, rfl⟩ (fun _ _ _ _ h => h.2.1) ?_ ?_
  · rintro i x σ H1 H2 hi ⟨ip, s1, v2, v3, v4, v5, v6, rfl⟩ ⟨t, y, z, rfl, ht, rfl, hy, hz⟩
    obtain rfl : V.int (i : Nat) = y := Option.some.inj hy
    obtain ⟨d, hd1, hd2⟩ := DpAll.getV hx hz
    have s2 := smNew s1 ht (.tup [.int (i : Nat), z])
    refine ⟨t, _, rfl, SqT.of upd_same, rfl, _, _, rfl, _, _, rfl, rfl, ?_⟩
    obtain ⟨pa, rfl, hpa⟩ := path_inv (Dp.keep s2 hp)
    refine ⟨_, rfl, _, rfl, (by show 1 ≤ sizeLine; decide), fun p1 hp1 => ?_⟩
    have s3 := smNew s2 hp1 (.tup [.int (i : Nat)])
    refine path_snoc (smT (smNew1 hp1 _) hpa) (SqT.of upd_same) (Nat.le_of_lt (small1000 (by omega))) fun here H3 s3' hh => ?_
    have s4 : Same H H3 := s3.trans s3'
    by_cases hip : i < pre.length
    case neg =>
      have ie : i = pre.length := by omega
      obtain ⟨c, rfl, rfl, hc, hcd, q⟩ : ∃ c : Bad, pre = c.pre ∧ ds = c.enc ∧ c.ok ∧ c.deep ≤ n + 1 ∧ ∀ d H' v, H d = none → Same H H' → H' d = some (.xd [("path", v)]) → Dp K H' v (pathD (c.path pth)) → E (.ref (He.ga K "BadStatement")) (some d) H' := by
        rcases hk with ⟨rfl, _⟩ | h
        · have := (List.getElem?_eq_some_iff.mp hd1).1
          rw [encB_map, List.length_map] at this
          exact absurd this hip
        · exact h
      subst ie
      rw [c.enc_eq, List.getElem?_append_right (by rw [encB_map, List.length_map]; exact Nat.le_refl _)] at hd1
      have hd1' : c.at_ = d := by
        have e : c.pre.length - (encB true c.pre).length = 0 := by rw [encB_map, List.length_map]; omega
        rw [e] at hd1
        exact Option.some.inj hd1
      subst hd1'
      cases c with
      | odd pre d post =>
        have hd4 := Dp.keep s4 hd2
        have rais : ∀ H4, Same H3 H4 → ∀ {R : Prop}, ((∀ d H', H4 d = none → Same H4 H' → H' d = some (.xd [("path", here)]) → E (.ref (He.ga K "BadStatement")) (some d) H') → R) → R := fun H4 e4 R g => g fun d H' nd e hd => q d H' here ((s4.trans e4).free nd) ((s4.trans e4).trans e) hd (Dp.keep (e4.trans e) hh)
        rcases hc.2 with ho | ⟨s, dt, rfl, h1, h2, h3⟩
        · refine ⟨_, rfl, .inr ⟨d, hd4, ho, ⟨_, rfl, iteT ?_⟩⟩⟩
          exact rais H3 (Same.refl _) fun g => ⟨_, rfl, raise1 g⟩
        · refine ⟨_, rfl, .inl ⟨s, dt, hd4, h1, h2, fun H4 e4 => ?_⟩⟩
          rw [h3]
          exact ⟨_, rfl, iteT (rais H4 e4 fun g => ⟨_, rfl, raise1 g⟩)⟩
      | rep pre m c post =>
        have hd4 := Dp.keep s4 hd2
        have gt : goodT (.rep m []) [.int m, .list c.enc] = true := by
          show (decide (2 = 2) && ((decide (0 ≤ m) && decide (m ≤ 3)) && (true && true))) = true
          rw [decide_eq_true hc.2.1.1, decide_eq_true hc.2.1.2]
          rfl
        refine ⟨_, rfl, .inl ⟨.rep m [], _, hd4, fun d hd => by
          rcases List.mem_cons.mp hd with rfl | hd
          · rfl
          · rw [List.mem_singleton.mp hd]; rfl, by show 2 ≤ 1000; omega, fun H4 e4 => ?_⟩⟩
        rw [gt]
        refine ⟨_, rfl, iteF ?_⟩
        have s5 : Same H H4 := s4.trans e4
        refine ⟨_, rfl, .rep m [], _, Dp.keep e4 hd4, rfl, fun pb H5 ys e5 npb hpb hys => ?_⟩
        have hys1 : DpAll K H4 ys [.list c.enc] := hys
        obtain ⟨yv, yr, rfl, hy1, hy2⟩ := DpAll.cons_inv hys1
        obtain rfl := DpAll.nil_inv hy2
        refine enumA_of (.inl (SqL.of hpb)) (Same.refl _) fun J2 wk2 => ?_
        refine for_it wk2 (fun j σ H' => j = 0 ∧ Same H5 H' ∧ ∃ v5 v6, σ = [some (.ref a), some (.ref pa), some (.int (pre.length : Nat)), some z, some here, v5, v6]) ⟨rfl, Same.refl H5, _, _, rfl⟩ (fun _ _ _ _ h => h.2.1) ?_ ?_
        · rintro j x2 σ2 H6 H7 hj ⟨rfl, s6, w5, w6, rfl⟩ ⟨t2, y2, z2, rfl, ht2, rfl, hy2, hz2⟩
          obtain rfl : V.int (0 : Nat) = y2 := Option.some.inj hy2
          obtain rfl : yv = z2 := Option.some.inj hz2
          have s7 : Same H4 H6 := e5.trans s6
          have s8 := smNew s7 ht2 (.tup [.int (0 : Nat), yv])
          refine ⟨t2, _, rfl, SqT.of upd_same, rfl, _, _, rfl, _, _, rfl, rfl, ?_⟩
          obtain ⟨ha2, rfl, hha⟩ := path_inv (Dp.keep s8 (Dp.keep e4 hh))
          refine ⟨_, rfl, _, rfl, _, rfl, (by show 1 ≤ sizeLine; decide), fun p2 hp2 => ?_⟩
          refine path_snoc (smT (smNew1 hp2 _) hha) (SqT.of upd_same) (Nat.le_of_lt (small1000 (by rw [List.length_append]; show pth.length + 1 + 1 ≤ 1000; omega))) fun hv H8 s9 hhv => ?_
          have s10 : Same H4 H8 := (smNew s8 hp2 _).trans s9
          have cd : c.deep + 1 ≤ n + 1 := Nat.le_trans (Nat.le_max_right _ _) hcd
          refine ⟨true, _, hhv, by rw [List.length_append, List.length_append]; show pth.length + 1 + 1 + 2 * n ≤ 1000; omega, .inr ⟨c, Dp.keep s10 hy1, hc.2.2, by omega, fun d H' v nd e hd hv => ?_⟩⟩
          exact q d H' v ((s5.trans s10).free nd) ((s5.trans s10).trans e) hd hv
        · rintro σ2 H6 ⟨h0, _⟩
          cases h0
    obtain ⟨st, hst, rfl⟩ := atp hd1 hip
    have hm : st ∈ pre := List.mem_of_getElem? hst
    have hws := wB_all hw st hm
    have hl := wl_of hws
    have hd4 := Dp.keep s4 hd2
    rw [encS_eq] at hd4
    refine ⟨_, rfl, .inl ⟨st, _, hd4, smalls_stm true hl, by rw [items_len]; cases st <;> (show _ ≤ 1000; simp [Stm.signs]), fun H4 e4 => ?_⟩⟩
    rw [goodT_stm true hl]
    refine ⟨_, rfl, iteF ?_⟩
    have s5 : Same H H4 := s4.trans e4
    refine ⟨_, rfl, st, _, Dp.keep e4 hd4, items_len _ _, fun pb H5 ys e5 npb hpb hys => ?_⟩
    rw [sel_body] at hys
    refine enumA_of (.inl (SqL.of hpb)) (Same.refl _) fun J2 wk2 => ?_
    refine for_it wk2 (fun j σ H' => Same H5 H' ∧ ∃ v5 v6, σ = [some (.ref a), some (.ref pa), some (.int (i : Nat)), some z, some here, v5, v6]) ⟨Same.refl H5, _, _, rfl⟩ (fun _ _ _ _ h => h.1) ?_ ?_
    · rintro j x2 σ2 H6 H7 hj ⟨s6, w5, w6, rfl⟩ ⟨t2, y2, z2, rfl, ht2, rfl, hy2, hz2⟩
      obtain rfl : V.int (j : Nat) = y2 := Option.some.inj hy2
      obtain ⟨d2, hd3, hd4'⟩ := DpAll.getV hys hz2
      rw [List.getElem?_map] at hd3
      obtain ⟨bd, hbd, rfl⟩ := Option.map_eq_some_iff.mp hd3
      have hmb : bd ∈ st.bodies := List.mem_of_getElem? hbd
      have s7 : Same H4 H6 := e5.trans s6
      have s8 := smNew s7 ht2 (.tup [.int (j : Nat), z2])
      refine ⟨t2, _, rfl, SqT.of upd_same, rfl, _, _, rfl, _, _, rfl, rfl, ?_⟩
      obtain ⟨ha2, rfl, hha⟩ := path_inv (Dp.keep s8 (Dp.keep e4 hh))
      refine ⟨_, rfl, _, rfl, _, rfl, (by show 1 ≤ sizeLine; decide), fun p2 hp2 => ?_⟩
      refine path_snoc (smT (smNew1 hp2 _) hha) (SqT.of upd_same) (Nat.le_of_lt (small1000 (by rw [List.length_append]; show pth.length + 1 + 1 ≤ 1000; omega))) fun hv H8 s9 hhv => ?_
      have s10 : Same H4 H8 := (smNew s8 hp2 _).trans s9
      have d1 := dB_mem hm
      have d2' := dS_mem hmb
      refine ⟨true, _, hhv, by rw [List.length_append, List.length_append]; show pth.length + 1 + 1 + 2 * n ≤ 1000; omega, .inl ⟨bd, Dp.keep s10 hd4', wB_of hws bd hmb, by omega, fun H9 e9 => ?_⟩⟩
      refine ⟨fun b o z => e9 _ _ ((smNew (smNew s6 ht2 _) hp2 _).trans s9 b o z), _, _, rfl⟩
    · rintro σ2 H6 ⟨s6, w5, w6, rfl⟩
      exact ⟨hip, s5.trans (e5.trans s6), _, _, _, _, _, rfl⟩
  · rintro σ H1 ⟨ip, s1, v2, v3, v4, v5, v6, rfl⟩
    rcases hk with ⟨_, q⟩ | ⟨c, rfl, rfl, _⟩
    · exact q H1 s1
    · rw [c.enc_eq, List.length_append, encB_map, List.length_map, List.length_cons] at lx
      omega
theorem c_checkG (T : Top w K mg) : ∀ n, Cal P w K mg base (L2.CX P w) (n + 4) "check_body" (spCheckG K n)
  | 0 => calX_never (f_check_body T) (g_check_body T) (ps := ["body", "path"]) (fun _ _ _ _ _ _ us hl => match us, hl with | [_, _], _ => rfl) fun vs H Q E h => by
      match vs, h with
      | [b, p], h =>
      obtain ⟨fl, pth, _, _, h⟩ := h
      rcases h with ⟨l, _, _, hn, _⟩ | ⟨c, _, _, hn, _⟩
      · have := dB_one l
        omega
      · have := dB_one c.pre
        have := c.deep_pre
        omega
  | n + 1 => ok_checkG T (c_checkG T n)
end
end RM

set_option Elab.async false
set_option linter.all false
set_option maxRecDepth 100000
set_option maxHeartbeats 2000000
namespace RM
open PySem PySem.Spec PyProof.Rows L2
section
variable {P : Program} {w : World} {K : PySem.W.Frag} {mg : Str → Option Value} {base : Heap}
/-! ### check_size, of any body -/
def spSizeG (K : PySem.W.Frag) : Sp := fun vs H Q E => match vs with
  | [b] => ∃ (l : List Stm), Dp K H b (.tuple (encB false l)) ∧ dB l ≤ 104 ∧ cB l ≤ 1000 ∧ (cB l ≤ 60 → dB l ≤ 4 → ∀ H', Same H H' → Q .non H') ∧
    (60 < cB l → ∀ H', Same H H' → E (.ref (He.ga K "TooLong")) none H') ∧ (cB l ≤ 60 → 4 < dB l → ∀ H', Same H H' → E (.ref (He.ga K "TooDeep")) none H')
  | _ => False
theorem cg_check_size (T : Top w K mg) : Cal P w K mg base (L2.CX P w) 109 "check_size" (spSizeG K) := by
  refine cal_X (f_check_size T) (g_check_size T) sc_check_size (fun _ _ _ _ _ _ us hl => match us, hl with | [_], _ => rfl) (fun vs H Q E h => match vs, h with | [_], _ => rfl) (fun cdv A outer s H vs Q E hr h => ?_)
  match vs, h with
  | [b], h =>
  obtain ⟨l, hb, hd, hc, q, qL, qD⟩ := h
  refine ⟨_, (pss_cons (ps_if (pt_cmpR op_gt (pcb (z_len T) call_len_seq boot_len (pa_cons (pc (c_all_statements T 104) hr (pa_cons (pv 0) (pa_cons (pe_tup pa_nil) pa_nil))) pa_nil)) (pglI (i_MOST T)) (nomark _))
      (pss_one (ps_raise rfl (takes_of rfl rfl rfl rfl) (pmk_exc0 (xc_TooLong T) (g_TooLong T))))
      pss_nil)
    (pss_one (ps_if (pt_cmpR op_gt (pc (c_depth_of T 104) hr (pa_cons (pv 0) pa_nil)) (pglI (i_DEEPEST T)) (nomark _))
      (pss_one (ps_raise rfl (takes_of rfl rfl rfl rfl) (pmk_exc0 (xc_TooDeep T) (g_TooDeep T))))
      pss_nil))), ?_⟩
  refine ⟨_, rfl, (by show 0 ≤ sizeLine; decide), fun p hp => ?_⟩
  have s1 : Same H (upd H p (.tup [])) := smNew1 hp _
  refine ⟨l, [], Dp.keep s1 hb, path0 (SqT.of upd_same), hd, by omega, by show 0 + 2 * 104 ≤ 1000; omega, fun r H1 ys e1 hr1 hr2 hys => ?_⟩
  have hl : ys.length = cB l := by rw [DpAll.len hys, allD_len, aB_len]
  have s2 : Same H H1 := s1.trans e1
  refine ⟨r, ys, rfl, .inl (SqL.of hr2), _, _, rfl, rfl, _, rfl, ?_⟩
  by_cases c1 : 60 < cB l
  · exact ifT (decide_eq_true (by show (60 : Int) < (ys.length : Nat); omega)) (qL c1 H1 s2)
  refine ifF (decide_eq_false (by show ¬ ((60 : Int) < (ys.length : Nat)); omega)) ?_
  refine ⟨_, rfl, l, Dp.keep s2 hb, hd, fun H2 s3 => ?_⟩
  refine ⟨_, _, rfl, rfl, _, rfl, ?_⟩
  by_cases c2 : 4 < dB l
  · exact ifT (decide_eq_true (by show (4 : Int) < (dB l : Nat); omega)) (qD (by omega) c2 H2 (s2.trans s3))
  refine ifF (decide_eq_false (by show ¬ ((4 : Int) < (dB l : Nat)); omega)) ?_
  exact q (by omega) (by omega) H2 (s2.trans s3)
/-! ### Program, of a right body that may be too long or too deep -/
def spInitW (K : PySem.W.Frag) : Sp := fun vs H Q E => match vs with
  | [x, b] => ∃ a dx fl l, x = .ref a ∧ H a = some (.ins (He.ga K "Program") dx []) ∧ Dp K H b (seqD fl (encB fl l)) ∧ wB l = true ∧ dB l ≤ 104 ∧ cB l ≤ 1000 ∧ (cB l ≤ 60 → dB l ≤ 4 → ∀ H', Off a H H' → PrgAt K H' a l → Q .non H') ∧
       (60 < cB l → ∀ H', Off a H H' → E (.ref (He.ga K "TooLong")) none H') ∧ (cB l ≤ 60 → 4 < dB l → ∀ H', Off a H H' → E (.ref (He.ga K "TooDeep")) none H')
  | _ => False
theorem c_ProgramW_init (T : Top w K mg) : Mak P w K mg base (L2.CX P w) 111 "Program" (He.ga K "Program") (spInitW K) := by
  refine mak_X (f_Program_init T) (mk_Program T) (g_Program T) sc_Program_init (fun _ _ _ _ _ _ us hl => match us, hl with | [_, _], _ => rfl) (fun vs H Q E h => match vs, h with | [_, _], _ => rfl) (fun cdv A outer s H vs Q E hr h => ?_)
  match vs, h with
  | [x, b], h =>
  obtain ⟨a, dx, fl, l, rfl, ha, hb, hw, hd, hc, q, qL, qD⟩ := h
  obtain ⟨b, xs, rfl, hb1, hb2⟩ := seqD_inv hb
  refine ⟨_, (pss_cons (ps_if (pt_not (pt_val (pcb (z_isinstance T) call_isiT boot_isinstance (pa_cons (pv 1) (pa_cons (pe_tup (pa_cons (pty (z_list T) boot_list) (pa_cons (pty (z_tuple T) boot_tuple) pa_nil))) pa_nil)))))
      (pss_one (ps_raiseX (takes_of rfl rfl rfl rfl) (c_BadStatement_init T) hr (pa_cons (pe_tup pa_nil) pa_nil)))
      pss_nil)
    (pss_cons (ps_expr (pc (c_check_body T 104) hr (pa_cons (pv 1) (pa_cons (pe_tup pa_nil) pa_nil))))
    (pss_cons (ps_fld (pv 0) (pc (c_as_tuples T 104) hr (pa_cons (pv 1) pa_nil)) rfl)
    (pss_one (ps_expr (pcX (takes_of rfl rfl rfl rfl) (cg_check_size T) hr (pa_cons (pe_fld (pv 0) rfl) pa_nil))))))), ?_⟩
  refine ⟨_, rfl, (by show 2 ≤ sizeLine; decide), fun p hp => ?_⟩
  have s1 : Same H (upd H p (.tup [.ty "list", .ty "tuple"])) := smNew1 hp _
  obtain ⟨ty, ht, hk⟩ := ty_seq hb1 s1
  refine ⟨_, p, _, ty, _, true, rfl, upd_same, .cons (.ty _) (.cons (.ty _) .nil), ht, hk, _, rfl, ?_⟩
  refine ifF rfl ?_
  refine ⟨_, rfl, (by show 0 ≤ sizeLine; decide), fun p2 hp2 => ?_⟩
  have s2 := smNew s1 hp2 (.tup [])
  refine ⟨fl, l, [], Dp.keep s2 hb, path0 (SqT.of upd_same), hw, hd, by show 0 + 2 * 104 ≤ 1000; omega, fun H3 s3 => ?_⟩
  have s4 : Same H H3 := s2.trans s3
  refine ⟨_, rfl, fl, fl, l, Dp.keep s4 hb, hd, hc, fun v H4 s5 hv => ?_⟩
  have s6 := s4.trans s5
  have ha4 := s6 _ _ ha
  refine ⟨_, rfl, a, _, dx, [], rfl, ha4, k_Program T, na_Program_body T, by decide, ?_⟩
  have ts : TS K H4 (upd H4 a (.ins (He.ga K "Program") dx [("body", v)])) := ts_upd _ ha4 trivial
  have hv5 := dp_ts ts hv (noL_tuple (noL_encB l))
  have off : ∀ {H6}, Same (upd H4 a (.ins (He.ga K "Program") dx [("body", v)])) H6 → Off a H H6 := fun s7 b u hb hu => s7 _ _ (by rw [upd_ne hb]; exact s6 _ _ hu)
  refine ⟨_, rfl, a, _, dx, _, v, rfl, upd_same, k_Program T, na_Program_body T, rfl, l, hv5, hd, hc, fun h1 h2 H6 s7 => ?_, fun h1 H6 s7 => qL h1 H6 (off s7), fun h1 h2 H6 s7 => qD h1 h2 H6 (off s7)⟩
  exact q h1 h2 H6 (off s7) ⟨dx, v, s7 _ _ upd_same, Dp.keep s7 hv5⟩
end
end RM

set_option Elab.async false
set_option linter.all false
set_option maxRecDepth 100000
set_option maxHeartbeats 4000000
namespace RM
open PySem PySem.Spec PyProof.Rows L2
/-! ### no line feed within a line -/
theorem joinL_free {c : Nat} (hc : c ≠ 32) : ∀ ps : List (List Nat), (∀ p ∈ ps, c ∉ p) → c ∉ TL.joinL [32] ps
  | [], _ => by simp [TL.joinL]
  | [p], h => h p List.mem_cons_self
  | p :: q :: r, h => by
    show c ∉ p ++ ([32] ++ TL.joinL [32] (q :: r))
    simp only [List.mem_append, List.mem_singleton, not_or]
    exact ⟨h p List.mem_cons_self, hc, joinL_free hc (q :: r) fun z hz => h z (List.mem_cons_of_mem _ hz)⟩
theorem line_free {i : Nat} {s : Stm} (h : wl s = true) : 10 ∉ TL.tl (line i s.toks) := by
  show 10 ∉ cl (spc i ++ Txt.join " " s.toks)
  rw [cl_app, List.mem_append, cl_spc, not_or]
  refine ⟨fun z => by have := List.eq_of_mem_replicate z; omega, ?_⟩
  show 10 ∉ TL.tl (Txt.join " " s.toks)
  rw [TL.join_eq, TL.tl_join, show TL.tl (" " : Str) = [32] from blank_list]
  refine joinL_free (by decide) _ fun p hp => ?_
  obtain ⟨z, hz, rfl⟩ := List.mem_map.mp hp
  have t := toks_ok h z hz
  unfold tokOk at t
  simp only [Bool.and_eq_true, decide_eq_true_eq, List.all_eq_true] at t
  exact fun m => (t.2.2 10 m).2.1 rfl
theorem else_free (i : Nat) : 10 ∉ TL.tl (elseL i) := by
  show 10 ∉ cl (spc i ++ "else")
  rw [cl_app, List.mem_append, cl_spc, not_or]
  exact ⟨fun z => by have := List.eq_of_mem_replicate z; omega, by decide +kernel⟩
mutual
theorem lnS_free (i : Nat) : ∀ s : Stm, wS s = true → ∀ z ∈ lnS i s, 10 ∉ TL.tl z
  | .read v k, h, z, hz => by rw [lnS, List.mem_singleton] at hz; rw [hz]; exact line_free (wl_of h)
  | .set v n, h, z, hz => by rw [lnS, List.mem_singleton] at hz; rw [hz]; exact line_free (wl_of h)
  | .copy v u, h, z, hz => by rw [lnS, List.mem_singleton] at hz; rw [hz]; exact line_free (wl_of h)
  | .print v, h, z, hz => by rw [lnS, List.mem_singleton] at hz; rw [hz]; exact line_free (wl_of h)
  | .say n, h, z, hz => by rw [lnS, List.mem_singleton] at hz; rw [hz]; exact line_free (wl_of h)
  | .wait, h, z, hz => by rw [lnS, List.mem_singleton] at hz; rw [hz]; exact line_free (wl_of h)
  | .stop, h, z, hz => by rw [lnS, List.mem_singleton] at hz; rw [hz]; exact line_free (wl_of h)
  | .ite v n a b, h, z, hz => by
    have hl := line_free (i := i) (wl_of h)
    simp only [wS, Bool.and_eq_true] at h
    simp only [lnS, List.mem_cons, List.mem_append] at hz
    rcases hz with rfl | hz | rfl | hz
    · exact hl
    · exact lnB_free (i + 2) a h.2.1 z hz
    · exact else_free i
    · exact lnB_free (i + 2) b h.2.2 z hz
  | .same v u a b, h, z, hz => by
    have hl := line_free (i := i) (wl_of h)
    simp only [wS, Bool.and_eq_true] at h
    simp only [lnS, List.mem_cons, List.mem_append] at hz
    rcases hz with rfl | hz | rfl | hz
    · exact hl
    · exact lnB_free (i + 2) a h.2.1 z hz
    · exact else_free i
    · exact lnB_free (i + 2) b h.2.2 z hz
  | .rep n a, h, z, hz => by
    have hl := line_free (i := i) (wl_of h)
    simp only [wS, Bool.and_eq_true] at h
    simp only [lnS, List.mem_cons] at hz
    rcases hz with rfl | hz
    · exact hl
    · exact lnB_free (i + 2) a h.2 z hz
theorem lnB_free (i : Nat) : ∀ l : List Stm, wB l = true → ∀ z ∈ lnB i l, 10 ∉ TL.tl z
  | [], _, z, hz => by simp [lnB] at hz
  | s :: r, h, z, hz => by
    simp only [wB, Bool.and_eq_true] at h
    rw [lnB, List.mem_append] at hz
    rcases hz with hz | hz
    · exact lnS_free i s h.1 z hz
    · exact lnB_free i r h.2 z hz
end
theorem feed_list : TL.tl ("\n" : Str) = [10] := by decide +kernel
end RM

set_option Elab.async false
set_option linter.all false
set_option maxRecDepth 100000
set_option maxHeartbeats 4000000
set_option pp.maxSteps 600
set_option pp.deepTerms false
namespace RM
open PySem PySem.Spec PyProof.Rows L2
section
variable {P : Program} {w : World} {K : PySem.W.Frag} {mg : Str → Option Value} {base : Heap}
/-! ### read, of any text -/
def LinesOf (z : Str) (L : List Str) : Prop := (z = "" ∧ L = []) ∨ (z ≠ "" ∧ Txt.split z "\n" = L)
def spReadG (K : PySem.W.Frag) : Sp := fun vs H Q E => match vs with
  | [x] => ∃ (z : Str) (L : List Str), x = .str z ∧ LinesOf z L ∧ z.length ≤ 1000000 ∧ L.length ≤ 100 ∧ (∀ y ∈ L, y.length ≤ 900) ∧
    (∀ l, BR 0 L = (some l, []) → (cB l ≤ 60 → dB l ≤ 4 → ∀ a H', Same H H' → PrgAt K H' a l → Q (.ref a) H') ∧ (∀ H', Same H H' → E (.ref (He.ga K "TooLong")) none H') ∧ (∀ H', Same H H' → E (.ref (He.ga K "TooDeep")) none H')) ∧
    (∀ o e, BR 0 L = (o, e) → o = none ∨ e ≠ [] → ∀ d H', Same H H' → H' d = some (.xd [("line", .int (((L.length - e.length : Nat) : Int) + 1))]) → E (.ref (He.ga K "BadText")) (some d) H')
  | _ => False
theorem sc_read : FnScope ["text", "lines", "body", "at"] ["text"] (defScope s_read) := ⟨rfl, rfl, rfl, by decide +kernel, rfl, by decide +kernel, by decide +kernel⟩
theorem c_read (T : Top w K mg) : Cal P w K mg base (L2.CX P w) 113 "read" (spReadG K) := by
  refine cal_X (f_read T) (g_read T) sc_read (fun _ _ _ _ _ _ us hl => match us, hl with | [_], _ => rfl) (fun vs H Q E h => match vs, h with | [_], _ => rfl) (fun cdv A outer s H vs Q E hr h => ?_)
  match vs, h with
  | [x], h =>
  obtain ⟨z, L, rfl, hzL, lz, lL, zL, q, qE⟩ := h
  refine ⟨_, (pss_cons (ps_set (i := 1) sc_read.nd rfl (Or.inl rfl) (pe_lst pa_nil))
    (pss_cons (ps_mid (ps_if (pt_cmpR op_ne (pv 0) pe_str (nomark _))
      (pss_one (ps_set (i := 1) sc_read.nd rfl (Or.inl rfl) (pe_split (pv 0) pe_str)))
      pss_nil))
    (pss_cons (ps_asg (pcX (takes_of rfl rfl rfl rfl) (c_body_of T 101) hr (pa_cons (pv 1) (pa_cons pe_int (pa_cons pe_int pa_nil)))) (pg_tup rfl (pgs_cons (pg_name (i := 2) sc_read.nd rfl (Or.inl rfl)) (pgs_cons (pg_name (i := 3) sc_read.nd rfl (Or.inl rfl)) pgs_nil))))
    (pss_cons (ps_if (pt_cmpR op_lt (pv 3) (pcb (z_len T) call_len_seq boot_len (pa_cons (pv 1) pa_nil)) (nomark _))
      (pss_one (ps_raiseX (takes_of rfl rfl rfl rfl) (c_BadText_init T) hr (pa_cons (pe_op op_add (pv 3) pe_int) pa_nil)))
      pss_nil)
    (pss_one (ps_ret (pmkX (takes_of rfl rfl rfl rfl) (c_ProgramW_init T) hr (pa_cons (pv 2) pa_nil)))))))), ?_⟩
  refine ⟨(by show 0 ≤ sizeLine; decide), fun p1 np1 => ?_⟩
  have t1 := smNew1 np1 (.lst [])
  refine ⟨fun σ H' => Same H H' ∧ ∃ p v2 v3, σ = [some (.str z), some (.ref p), v2, v3] ∧ H' p = some (.lst (L.map V.str)), ?_, ?_⟩
  · refine ⟨_, rfl, rfl, _, rfl, ?_⟩
    rcases hzL with ⟨rfl, rfl⟩ | ⟨hz, rfl⟩
    · refine ifF (by rfl) ?_
      exact ⟨t1, p1, _, _, rfl, upd_same⟩
    · refine ifT (by rw [decide_eq_false fun h => hz (V.str.inj h)]; rfl) ?_
      refine ⟨_, rfl, ⟨_, rfl⟩, _, _, rfl, rfl, by decide +kernel, Nat.le_trans (Nat.add_le_add_right lz 2) (by decide), fun p2 np2 => ?_⟩
      exact ⟨smNew t1 np2 _, p2, _, _, rfl, upd_same⟩
  · rintro σ H1 ⟨s1, p, v2, v3, rfl, hp⟩
    refine ⟨_, rfl, p, L, 0, 0, rfl, rfl, rfl, SqL.of hp, Nat.zero_le _, by rw [List.drop_zero]; omega, by omega, by omega, zL, fun l e he t v H2 s2 ht hv => ?_, fun e he d H2 s2 hd => ?_⟩
    · rw [List.drop_zero] at he
      obtain ⟨hb, hw⟩ := BR_back he
      have lb := congrArg List.length hb
      rw [List.length_append] at lb
      refine ⟨t, _, rfl, ht, rfl, _, _, rfl, _, _, rfl, rfl, ?_⟩
      refine ⟨_, rfl, _, rfl, p, _, rfl, .inl (SqL.of (s2 _ _ hp)), _, _, rfl, rfl, _, rfl, ?_⟩
      by_cases hem : e = []
      case neg =>
        have le : 0 < e.length := List.length_pos_iff.mpr hem
        refine ifT (decide_eq_true (by rw [List.length_map]; omega)) ?_
        refine ⟨_, rfl, _, _, rfl, rfl, ?_⟩
        exact raise1 fun d H' nd e3 hd => qE _ e he (.inr hem) d H' (s1.trans (s2.trans e3)) hd
      subst hem
      refine ifF (decide_eq_false (by rw [List.length_map]; show ¬ (((L.length - 0 : Nat) : Int) < _); omega)) ?_
      have dl := lnB_deep 0 l
      have cl' := lnB_count 0 l
      refine ⟨_, rfl, fun x dx hx hdx hxd => ?_⟩
      have mI := mk_in (C := He.ga K "Program") hx hdx hxd
      obtain ⟨q1, q2, q3⟩ := q l he
      have s12 := s1.trans s2
      exact ⟨x, dx, false, l, rfl, upd_same, Dp.keep mI hv, hw, by omega, by omega, fun h1 h2 H8 e8 pr => ⟨rfl, q1 h1 h2 x H8 (s12.trans (mk_sm hx hdx e8)) pr⟩, fun _ H8 e8 => q2 H8 (s12.trans (mk_sm hx hdx e8)), fun _ _ H8 e8 => q3 H8 (s12.trans (mk_sm hx hdx e8))⟩
    · rw [List.drop_zero] at he
      exact qE _ e he (.inl rfl) d H2 (s1.trans s2) hd
end
end RM

set_option Elab.async false
set_option linter.all false
set_option maxRecDepth 100000
set_option maxHeartbeats 2000000
namespace RM
open PySem PySem.Spec PyProof.Rows L2
theorem nw_obj {H0 H1 : Hp} {p : Addr} {o : HO} (hp : H1 p = none) (g : Gro H0 H1) : nw H0 (upd H1 p o) p = some o := by
  rw [nw_new (g p hp)]
  exact upd_same
theorem draw_of {r m : Int} (h0 : 0 ≤ r) (h1 : r < m) : ∃ k : Nat, r = k ∧ (k : Int) < m := ⟨r.toNat, by omega, by omega⟩
section
variable {P : Program} {w : World} {K : PySem.W.Frag} {mg : Str → Option Value} {base : Heap}
/-- the variables of a law's programs -/
def vMenu : List Str := ["x", "y", "a", "b"]
def isV (v : Str) : Bool := decide (v ∈ vMenu)
mutual
def vS : Stm → Bool
  | .read v _ => isV v
  | .set v _ => isV v
  | .copy v u => isV v && isV u
  | .print v => isV v
  | .ite v _ a b => isV v && (vB a && vB b)
  | .same v u a b => isV v && isV u && (vB a && vB b)
  | .rep _ a => vB a
  | _ => true
def vB : List Stm → Bool
  | [] => true
  | s :: r => vS s && vB r
end
theorem vB_app : ∀ (l m : List Stm), vB (l ++ m) = (vB l && vB m)
  | [], m => by simp [vB]
  | s :: r, m => by rw [List.cons_append, vB, vB, vB_app r m, Bool.and_assoc]
theorem vB_take {l : List Stm} (h : vB l = true) (j : Nat) : vB (l.take j) = true := by
  have := vB_app (l.take j) (l.drop j)
  rw [List.take_append_drop, h] at this
  cases e : vB (l.take j) with
  | true => rfl
  | false => rw [e] at this; cases this
def spVar (K : PySem.W.Frag) : Sp := fun vs H Q _ => match vs with
  | [x] => ∃ d sc, x = .ref d ∧ DrawAt K H d sc ∧ ∀ z H', z ∈ vMenu → But d H H' → DrawAt K H' d sc → Q (.str z) H'
  | _ => False
theorem sc_law_variable : FnScope ["_law_draws"] ["_law_draws"] (defScope s_law_variable) := ⟨rfl, rfl, rfl, by decide +kernel, rfl, by decide +kernel, by decide +kernel⟩
theorem vars_word : ∀ z ∈ vMenu, isWord z = true := by decide +kernel
theorem isV_of {z : Str} (h : z ∈ vMenu) : isV z = true := decide_eq_true h
theorem c_law_variable (T : Top w K mg) : Cal P w K mg base CX0 2 "_law_variable" (spVar K) := by
  refine cal_0 (f_law_variable T) (g_law_variable T) sc_law_variable (fun _ _ _ _ _ _ us hl => match us, hl with | [_], _ => rfl) (fun vs H Q E h => match vs, h with | [_], _ => rfl) (fun cdv A outer s H vs Q E hr h => ?_)
  match vs, h with
  | [x], h =>
  obtain ⟨d, sc, rfl, hd, q⟩ := h
  refine ⟨_, (pss_one (ps_ret (pe_ix ix_list (pe_lst (pa_cons pe_str (pa_cons pe_str (pa_cons pe_str (pa_cons pe_str pa_nil))))) (pc (c_law_draw T) hr (pa_cons (pv 0) (pa_cons pe_int pa_nil))) (fun _ _ => rfl)))), ?_⟩
  refine ⟨(by show 4 ≤ sizeLine; decide), fun p hp => ?_⟩
  have s1 : Same H (upd H p (.lst [.str "x", .str "y", .str "a", .str "b"])) := smNew1 hp _
  refine ⟨_, rfl, d, sc, 4, rfl, rfl, hd.keep s1, by decide, by decide, fun r H' r0 r1 bt hd' => ?_⟩
  have hne : p ≠ d := fun e => hd.1.ne (by rw [← e]; exact hp)
  obtain ⟨k, rfl, hk⟩ := draw_of r0 r1
  have hk4 : k < 4 := by omega
  have ha : atI ([V.str "x", V.str "y", V.str "a", V.str "b"]) (k : Int) = some (V.str ((["x", "y", "a", "b"] : List Str)[k])) := atI_nat (by
    show ((["x", "y", "a", "b"] : List Str).map V.str)[k]? = _
    rw [List.getElem?_map, List.getElem?_eq_getElem hk4]
    rfl)
  refine ⟨p, _, _, _, rfl, rfl, SqL.of (bt.get hne upd_same), ha, ?_⟩
  exact q _ _ (List.getElem_mem hk4) ((but_sm s1).trans bt) hd'
/-! ### _law_plain -/
/-- a statement without bodies, its keys among ks -/
def flatK (ks : List Str) : Stm → Bool
  | .read _ k => decide (k ∈ ks) | .ite .. => false | .same .. => false | .rep .. => false | _ => true
def Ctx (K : PySem.W.Frag) (H : Hp) (d sc n : Addr) (ks : List Str) : Prop := DrawAt K H d sc ∧ SqL K (del H d) n (ks.map V.str) ∧ 0 < ks.length ∧ ks.length < 1000 ∧ ∀ k ∈ ks, isWord k = true
theorem Ctx.keep {H H' : Hp} {d sc n : Addr} {ks : List Str} (e : Same H H') (h : Ctx K H d sc n ks) : Ctx K H' d sc n ks := ⟨h.1.keep e, (but_sm e).seq h.2.1, h.2.2⟩
theorem Ctx.but {H H' : Hp} {d sc n : Addr} {ks : List Str} (e : But d H H') (h : Ctx K H d sc n ks) (hd : DrawAt K H' d sc) : Ctx K H' d sc n ks := ⟨hd, Same.seq e h.2.1, h.2.2⟩
def spPlain (K : PySem.W.Frag) : Sp := fun vs H Q _ => match vs with
  | [x, y] => ∃ d sc n ks, x = .ref d ∧ y = .ref n ∧ Ctx K H d sc n ks ∧
    ∀ s v H', flatK ks s = true → wS s = true → vS s = true → But d H H' → DrawAt K H' d sc → Dp K (nw H H') v (encS true s) → Q v H'
  | _ => False
theorem sc_law_plain : FnScope ["_law_draws", "_law_names", "_law_at"] ["_law_draws", "_law_names"] (defScope s_law_plain) := ⟨rfl, rfl, rfl, by decide +kernel, rfl, by decide +kernel, by decide +kernel⟩
theorem c_law_plain (T : Top w K mg) : Cal P w K mg base CX0 3 "_law_plain" (spPlain K) := by
  refine cal_0 (f_law_plain T) (g_law_plain T) sc_law_plain (fun _ _ _ _ _ _ us hl => match us, hl with | [_, _], _ => rfl) (fun vs H Q E h => match vs, h with | [_, _], _ => rfl) (fun cdv A outer s H vs Q E hr h => ?_)
  match vs, h with
  | [x, y], h =>
  obtain ⟨d, sc, n, ks, rfl, rfl, c0, q⟩ := h
  refine ⟨_, (pss_cons (ps_set (i := 2) sc_law_plain.nd rfl (Or.inl rfl) (pc (c_law_draw T) hr (pa_cons (pv 0) (pa_cons pe_int pa_nil))))
    (pss_cons (ps_if (pt_cmpR op_le (pv 2) pe_int (nomark _))
      (pss_one (ps_ret (pe_tup (pa_cons pe_str (pa_cons (pc (c_law_variable T) hr (pa_cons (pv 0) pa_nil)) (pa_cons (pe_ix ix_list (pv 1) (pc (c_law_draw T) hr (pa_cons (pv 0) (pa_cons (pcb (z_len T) call_len_seq boot_len (pa_cons (pv 1) pa_nil)) pa_nil))) (fun _ _ => rfl)) pa_nil))))))
      pss_nil)
    (pss_cons (ps_if (pt_cmpR op_le (pv 2) pe_int (nomark _))
      (pss_one (ps_ret (pe_tup (pa_cons pe_str pa_nil))))
      pss_nil)
    (pss_cons (ps_if (pt_cmpR op_le (pv 2) pe_int (nomark _))
      (pss_one (ps_ret (pe_tup (pa_cons pe_str (pa_cons (pc (c_law_variable T) hr (pa_cons (pv 0) pa_nil)) pa_nil)))))
      pss_nil)
    (pss_cons (ps_if (pt_cmpR op_eq (pv 2) pe_int (nomark _))
      (pss_one (ps_ret (pe_tup (pa_cons pe_str (pa_cons (pe_op op_sub (pc (c_law_draw T) hr (pa_cons (pv 0) (pa_cons pe_int pa_nil))) pe_int) pa_nil)))))
      pss_nil)
    (pss_cons (ps_if (pt_cmpR op_eq (pv 2) pe_int (nomark _))
      (pss_one (ps_ret (pe_tup (pa_cons pe_str (pa_cons (pc (c_law_variable T) hr (pa_cons (pv 0) pa_nil)) (pa_cons (pc (c_law_draw T) hr (pa_cons (pv 0) (pa_cons pe_int pa_nil))) pa_nil))))))
      pss_nil)
    (pss_cons (ps_if (pt_cmpR op_eq (pc (c_law_draw T) hr (pa_cons (pv 0) (pa_cons pe_int pa_nil))) pe_int (nomark _))
      (pss_one (ps_ret (pe_tup (pa_cons pe_str pa_nil))))
      pss_nil)
    (pss_one (ps_ret (pe_tup (pa_cons pe_str (pa_cons (pc (c_law_variable T) hr (pa_cons (pv 0) pa_nil)) (pa_cons (pc (c_law_variable T) hr (pa_cons (pv 0) pa_nil)) pa_nil))))))))))))), ?_⟩
  refine ⟨_, rfl, d, sc, 11, rfl, rfl, c0.1, by decide, by decide, fun at_ H1 a0 a1 b1 d1 => ?_⟩
  have c1 := c0.but b1 d1
  have fin : ∀ (H2 : Hp) (s : Stm) (p : Addr) (xs : List V) (ds : List PyData), But d H H2 → DrawAt K H2 d sc → H2 p = none → encS true s = .tuple ds → flatK ks s = true → wS s = true → vS s = true → (∀ H, DpAll K H xs ds) → Q (.ref p) (upd H2 p (.tup xs)) := fun H2 s p xs ds b2 d2 hp e f w vv da => by
    refine q s _ _ f w vv (b2.trans (but_sm (smNew1 hp _))) (d2.keep (smNew1 hp _)) ?_
    rw [e]
    exact .tup (SqT.of (nw_obj hp (gro_but b2 d2.1.ne))) (da _)
  refine ⟨_, rfl, _, _, rfl, rfl, _, rfl, ?_⟩
  refine ifB (fun _ => ?_) (fun _ => ?_)
  · -- read
    refine ⟨_, rfl, d, sc, rfl, d1, fun v H2 wv b2 d2 => ?_⟩
    have c2 := c1.but b2 d2
    have hn2 := (del_sm H2 d).seq c2.2.1
    refine ⟨_, rfl, _, rfl, _, rfl, n, _, rfl, .inl hn2, ?_⟩
    refine ⟨d, sc, _, rfl, rfl, d2, by rw [List.length_map]; have := c0.2.2.1; omega, by rw [List.length_map]; have := c0.2.2.2.1; omega, fun r H3 r0 r1 b3 d3 => ?_⟩
    have c3 := c2.but b3 d3
    obtain ⟨k, rfl, hk⟩ := draw_of r0 r1
    rw [List.length_map] at hk
    have hk' : k < ks.length := by omega
    refine ⟨n, _, _, .str ks[k], rfl, rfl, (del_sm H3 d).seq c3.2.1, atI_nat (by rw [List.getElem?_map, List.getElem?_eq_getElem hk']; rfl), ?_⟩
    refine ⟨(by show 3 ≤ sizeLine; decide), fun p hp => ?_⟩
    exact fin H3 (.read v ks[k]) p _ _ (b1.trans (b2.trans b3)) d3 hp rfl (decide_eq_true (List.getElem_mem hk')) (by
      show (isWord v && isWord ks[k]) = true
      rw [vars_word _ wv, c0.2.2.2.2 _ (List.getElem_mem hk')]
      rfl) (isV_of wv) fun _ => .cons (.str _) (.cons (.str _) (.cons (.str _) .nil))
  refine ⟨_, rfl, _, _, rfl, rfl, _, rfl, ?_⟩
  refine ifB (fun _ => ?_) (fun _ => ?_)
  · refine ⟨(by show 1 ≤ sizeLine; decide), fun p hp => ?_⟩
    exact fin H1 .wait p _ _ b1 d1 hp rfl rfl rfl rfl fun _ => .cons (.str _) .nil
  refine ⟨_, rfl, _, _, rfl, rfl, _, rfl, ?_⟩
  refine ifB (fun _ => ?_) (fun _ => ?_)
  · refine ⟨_, rfl, d, sc, rfl, d1, fun v H2 wv b2 d2 => ?_⟩
    refine ⟨(by show 2 ≤ sizeLine; decide), fun p hp => ?_⟩
    exact fin H2 (.print v) p _ _ (b1.trans b2) d2 hp rfl rfl (vars_word _ wv) (isV_of wv) fun _ => .cons (.str _) (.cons (.str _) .nil)
  refine ⟨_, rfl, rfl, _, rfl, ?_⟩
  refine ifB (fun _ => ?_) (fun _ => ?_)
  · refine ⟨_, rfl, d, sc, _, rfl, rfl, d1, by decide, by decide, fun r H2 r0 r1 b2 d2 => ?_⟩
    refine ⟨_, _, rfl, rfl, ?_⟩
    refine ⟨(by show 2 ≤ sizeLine; decide), fun p hp => ?_⟩
    exact fin H2 (.say (r - 99)) p _ _ (b1.trans b2) d2 hp rfl rfl (by
      show (decide _ && decide _) = true
      rw [decide_eq_true (by omega), decide_eq_true (by omega)]
      rfl) rfl fun _ => .cons (.str _) (.cons (.int _) .nil)
  refine ⟨_, rfl, rfl, _, rfl, ?_⟩
  refine ifB (fun _ => ?_) (fun _ => ?_)
  · refine ⟨_, rfl, d, sc, rfl, d1, fun v H2 wv b2 d2 => ?_⟩
    refine ⟨_, rfl, d, sc, _, rfl, rfl, d2, by decide, by decide, fun r H3 r0 r1 b3 d3 => ?_⟩
    refine ⟨(by show 3 ≤ sizeLine; decide), fun p hp => ?_⟩
    exact fin H3 (.set v r) p _ _ (b1.trans (b2.trans b3)) d3 hp rfl rfl (by
      show (isWord v && (decide _ && decide _)) = true
      rw [vars_word _ wv, decide_eq_true (by omega), decide_eq_true (by omega)]
      rfl) (isV_of wv) fun _ => .cons (.str _) (.cons (.str _) (.cons (.int _) .nil))
  refine ⟨_, rfl, d, sc, _, rfl, rfl, d1, by decide, by decide, fun r H2 r0 r1 b2 d2 => ?_⟩
  refine ⟨rfl, _, rfl, ?_⟩
  refine ifB (fun _ => ?_) (fun _ => ?_)
  · refine ⟨(by show 1 ≤ sizeLine; decide), fun p hp => ?_⟩
    exact fin H2 .stop p _ _ (b1.trans b2) d2 hp rfl rfl rfl rfl fun _ => .cons (.str _) .nil
  refine ⟨_, rfl, d, sc, rfl, d2, fun v H3 wv b3 d3 => ?_⟩
  refine ⟨_, rfl, d, sc, rfl, d3, fun u H4 wu b4 d4 => ?_⟩
  refine ⟨(by show 3 ≤ sizeLine; decide), fun p hp => ?_⟩
  exact fin H4 (.copy v u) p _ _ (b1.trans (b2.trans (b3.trans b4))) d4 hp rfl rfl (by
    show (isWord v && isWord u) = true
    rw [vars_word _ wv, vars_word _ wu]
    rfl) (by
    show (isV v && isV u) = true
    rw [isV_of wv, isV_of wu]
    rfl) fun _ => .cons (.str _) (.cons (.str _) (.cons (.str _) .nil))
end
end RM

set_option Elab.async false
set_option linter.all false
set_option maxRecDepth 100000
set_option maxHeartbeats 2000000
namespace RM
open PySem PySem.Spec PyProof.Rows L2
mutual
/-- every key that is read is among ks -/
def kS (ks : List Str) : Stm → Bool
  | .read _ k => decide (k ∈ ks) | .ite _ _ a b => kB ks a && kB ks b | .same _ _ a b => kB ks a && kB ks b | .rep _ a => kB ks a | _ => true
def kB (ks : List Str) : List Stm → Bool
  | [] => true
  | s :: r => kS ks s && kB ks r
end
end RM

set_option Elab.async false
set_option linter.all false
set_option maxRecDepth 100000
set_option maxHeartbeats 4000000
namespace RM
open PySem PySem.Spec PyProof.Rows L2
/-! ### _law_body -/
def bB : Nat → Nat → Nat
  | 0, m => m
  | n + 1, m => m * (1 + max (2 * bB n 2) (bB n 3))
theorem flat_kS {ks : List Str} {s : Stm} (h : flatK ks s = true) : kS ks s = true := by cases s <;> first | exact h | cases h
theorem flat_d {ks : List Str} {s : Stm} (h : flatK ks s = true) : dS s = 0 ∧ cS s = 1 := by cases s <;> first | exact ⟨rfl, rfl⟩ | cases h
theorem wB_app : ∀ (l m : List Stm), wB (l ++ m) = (wB l && wB m)
  | [], m => by simp [wB]
  | s :: r, m => by rw [List.cons_append, wB, wB, wB_app r m, Bool.and_assoc]
theorem kB_app (ks : List Str) : ∀ (l m : List Stm), kB ks (l ++ m) = (kB ks l && kB ks m)
  | [], m => by simp [kB]
  | s :: r, m => by rw [List.cons_append, kB, kB, kB_app ks r m, Bool.and_assoc]
theorem cB_app : ∀ (l m : List Stm), cB (l ++ m) = cB l + cB m
  | [], m => by simp [cB]
  | s :: r, m => by rw [List.cons_append, cB, cB, cB_app r m, Nat.add_assoc]
theorem encB_app (fl : Bool) (l m : List Stm) : encB fl (l ++ m) = encB fl l ++ encB fl m := by rw [encB_map, encB_map, encB_map, List.map_append]
/-- what the making of a body keeps: the body's list at p, not there in H0 -/
def BI (K : PySem.W.Frag) (ks : List Str) (H0 : Hp) (d sc p : Addr) (n k b : Nat) (H : Hp) : Prop := ∃ l acc, Same (del H0 d) (del (del H d) p) ∧ Hd4 H d sc ∧ H p = some (.lst acc) ∧ DpAll K (del (nw H0 H) p) acc (encB true l) ∧
  wB l = true ∧ kB ks l = true ∧ dB l ≤ n + 1 ∧ l.length = k ∧ cB l ≤ k * b ∧ vB l = true
theorem bi_ctx {K : PySem.W.Frag} {H0 H : Hp} {d sc n p : Addr} {ks : List Str} (c : Ctx K H0 d sc n ks) (s : Same (del H0 d) (del (del H d) p)) (h : Hd4 H d sc) : Ctx K H d sc n ks :=
  have e : Same (del H0 d) (del H d) := s.trans (del_sm _ _)
  ⟨⟨h, c.1.2.keep e⟩, e.seq c.2.1, c.2.2⟩
theorem bi_gro {H0 H : Hp} {d p : Addr} (s : Same (del H0 d) (del (del H d) p)) (hd : H d ≠ none) : Gro H0 H := fun b h => by
  by_cases hb : b = d
  · rw [hb] at h
    exact absurd h hd
  · cases z : H0 b with
    | none => rfl
    | some u =>
      have := s b u (by rw [del_ne hb]; exact z)
      have := (del_sm _ _) _ _ ((del_sm _ _) _ _ this)
      rw [this] at h
      cases h
theorem bi_step {K : PySem.W.Frag} {ks : List Str} {H0 H H2 : Hp} {d sc p : Addr} {n k b : Nat} {v : V} {s : Stm} (h0 : H0 d ≠ none) (hp0 : H0 p = none) (hne : p ≠ d) (l : List Stm) (acc : List V)
    (i1 : Same (del H0 d) (del (del H d) p)) (i2 : Hd4 H d sc) (i3 : H p = some (.lst acc)) (i4 : DpAll K (del (nw H0 H) p) acc (encB true l)) (i5 : wB l = true) (i6 : kB ks l = true) (i7 : dB l ≤ n + 1) (i8 : l.length = k) (i9 : cB l ≤ k * b) (i10 : vB l = true)
    (bt : But d H H2) (hd2 : Hd4 H2 d sc) (hv : Dp K (nw H H2) v (encS true s)) (ws : wS s = true) (kk : kS ks s = true) (ds : dS s ≤ n) (cs : cS s ≤ b) (vs : vS s = true) : BI K ks H0 d sc p n (k + 1) b (upd H2 p (.lst (acc ++ [v]))) := by
  have g := bi_gro i1 i2.ne
  refine ⟨l ++ [s], acc ++ [v], fun c u z => ?_, ?_, upd_same, ?_, ?_, ?_, ?_, ?_, ?_, ?_⟩
  · have z2 := i1 c u z
    by_cases hc : c = d
    · rw [hc, del_same] at z
      cases z
    · by_cases hcp : c = p
      · rw [hcp, del_same] at z2
        cases z2
      · rw [del_ne hcp, del_ne hc] at z2 ⊢
        rw [upd_ne hcp]
        exact bt.get hc z2
  · obtain ⟨p', q', r', h, z⟩ := hd2
    exact ⟨p', q', r', by rw [upd_ne hne.symm]; exact h, z⟩
  · rw [encB_app]
    have e1 : Same (del (nw H0 H) p) (del (nw H0 (upd H2 p (.lst (acc ++ [v])))) p) := fun c u z => by
      by_cases hcp : c = p
      · rw [hcp, del_same] at z
        cases z
      · rw [del_ne hcp] at z ⊢
        obtain ⟨z1, z2⟩ := nw_some z
        rw [nw_new z1, upd_ne hcp]
        exact bt.get (fun q => h0 (by rw [← q]; exact z1)) z2
    have e2 : Same (nw H H2) (del (nw H0 (upd H2 p (.lst (acc ++ [v])))) p) := fun c u z => by
      obtain ⟨z1, z2⟩ := nw_some z
      have hcp : c ≠ p := fun q => by
        rw [q, i3] at z1
        cases z1
      rw [del_ne hcp, nw_new (g _ z1), upd_ne hcp]
      exact z2
    exact DpAll.snoc (DpAll.keep e1 i4) (Dp.keep e2 hv)
  · rw [wB_app, i5, wB, ws]
    rfl
  · rw [kB_app, i6, kB, kk]
    rfl
  · rw [dB_snoc]
    omega
  · rw [List.length_append, i8]
    rfl
  · rw [cB_app, cB, cB, Nat.succ_mul]
    omega
  · rw [vB_app, i10, vB, vs]
    rfl
section
variable {P : Program} {w : World} {K : PySem.W.Frag} {mg : Str → Option Value} {base : Heap}
def spBody (K : PySem.W.Frag) (n : Nat) : Sp := fun vs H Q _ => match vs with
  | [x, y, z, u] => ∃ d sc nm ks, ∃ deep m : Nat, x = .ref d ∧ y = .ref nm ∧ z = .int deep ∧ u = .int m ∧ deep < n ∧ m ≤ 1000 ∧ bB deep m ≤ 1000 ∧ Ctx K H d sc nm ks ∧
    ∀ r l ys H', wB l = true → kB ks l = true → vB l = true → dB l ≤ deep + 1 → cB l ≤ bB deep m → But d H H' → DrawAt K H' d sc → H r = none → H' r = some (.lst ys) → DpAll K (del (nw H H') r) ys (encB true l) → Q (.ref r) H'
  | _ => False
theorem sc_law_body : FnScope ["_law_draws", "_law_names", "_law_deep", "_law_most", "_law_body_here", "_law_k", "_law_at", "_law_one", "_law_two"] ["_law_draws", "_law_names", "_law_deep", "_law_most"] (defScope s_law_body) := ⟨rfl, rfl, rfl, by decide +kernel, rfl, by decide +kernel, by decide +kernel⟩
theorem bB_mul (deep m : Nat) : bB deep m = m * bB deep 1 := by
  cases deep with
  | zero => simp [bB]
  | succ n => simp [bB]
theorem ok_law_body (T : Top w K mg) {n : Nat} (ih : Cal P w K mg base CX0 (n + 4) "_law_body" (spBody K n)) : Cal P w K mg base CX0 (n + 5) "_law_body" (spBody K (n + 1)) := by
  refine cal_0 (f_law_body T) (g_law_body T) sc_law_body (fun _ _ _ _ _ _ us hl => match us, hl with | [_, _, _, _], _ => rfl) (fun vs H Q E h => match vs, h with | [_, _, _, _], _ => rfl) (fun cdv A outer s H0 vs Q E hr h => ?_)
  match vs, h with
  | [x, y, z, u], h =>
  obtain ⟨d, sc, nm, ks, deep, m, rfl, rfl, rfl, rfl, hdn, hm, hbb, c0, q⟩ := h
  refine ⟨_, (pss_cons (ps_set (i := 4) sc_law_body.nd rfl (Or.inl rfl) (pe_lst pa_nil))
    (pss_cons (ps_for PassesOwn.never rfl (pi_range1 rfl (z_range T) (pa_cons (pc (c_law_draw T) hr (pa_cons (pv 0) (pa_cons (pe_op op_add (pv 3) pe_int) pa_nil))) pa_nil)) (pg_name (i := 5) sc_law_body.nd rfl (Or.inl rfl))
      (pss_cons (ps_set (i := 6) sc_law_body.nd rfl (Or.inl rfl) (pc (c_law_draw T) hr (pa_cons (pv 0) (pa_cons pe_int pa_nil))))
    (pss_one (ps_if (PW.pt (pw_or (pt_cmpR op_lt (pv 2) pe_int (nomark _)) (pw_or1 (pt_cmpR op_le (pv 6) pe_int (nomark _)))))
      (pss_one (ps_expr (pe_bm PySem.F.plainAttrs_list PySem.F.slot_list_append PySem.F.type_list_append mt_append (pv 4) (pa_cons (pc (c_law_plain T) hr (pa_cons (pv 0) (pa_cons (pv 1) pa_nil))) pa_nil))))
      (pss_one (ps_if (pt_cmpR op_eq (pv 6) pe_int (nomark _))
      (pss_cons (ps_set (i := 7) sc_law_body.nd rfl (Or.inl rfl) (pc ih hr (pa_cons (pv 0) (pa_cons (pv 1) (pa_cons (pe_op op_sub (pv 2) pe_int) (pa_cons pe_int pa_nil))))))
    (pss_cons (ps_set (i := 8) sc_law_body.nd rfl (Or.inl rfl) (pc ih hr (pa_cons (pv 0) (pa_cons (pv 1) (pa_cons (pe_op op_sub (pv 2) pe_int) (pa_cons pe_int pa_nil))))))
    (pss_one (ps_if (pt_cmpR op_eq (pc (c_law_draw T) hr (pa_cons (pv 0) (pa_cons pe_int pa_nil))) pe_int (nomark _))
      (pss_one (ps_expr (pe_bm PySem.F.plainAttrs_list PySem.F.slot_list_append PySem.F.type_list_append mt_append (pv 4) (pa_cons (pe_tup (pa_cons pe_str (pa_cons (pc (c_law_variable T) hr (pa_cons (pv 0) pa_nil)) (pa_cons (pc (c_law_draw T) hr (pa_cons (pv 0) (pa_cons pe_int pa_nil))) (pa_cons (pv 7) (pa_cons (pv 8) pa_nil)))))) pa_nil))))
      (pss_one (ps_expr (pe_bm PySem.F.plainAttrs_list PySem.F.slot_list_append PySem.F.type_list_append mt_append (pv 4) (pa_cons (pe_tup (pa_cons pe_str (pa_cons (pc (c_law_variable T) hr (pa_cons (pv 0) pa_nil)) (pa_cons (pc (c_law_variable T) hr (pa_cons (pv 0) pa_nil)) (pa_cons (pv 7) (pa_cons (pv 8) pa_nil)))))) pa_nil))))))))
      (pss_one (ps_expr (pe_bm PySem.F.plainAttrs_list PySem.F.slot_list_append PySem.F.type_list_append mt_append (pv 4) (pa_cons (pe_tup (pa_cons pe_str (pa_cons (pc (c_law_draw T) hr (pa_cons (pv 0) (pa_cons pe_int pa_nil))) (pa_cons (pc ih hr (pa_cons (pv 0) (pa_cons (pv 1) (pa_cons (pe_op op_sub (pv 2) pe_int) (pa_cons pe_int pa_nil))))) pa_nil)))) pa_nil))))))))))
    (pss_one (ps_ret (pv 4))))), ?_⟩
  refine ⟨(by show 0 ≤ sizeLine; decide), fun p hp => ?_⟩
  have s0 := smNew1 hp (.lst [])
  have hne : p ≠ d := fun e => c0.1.1.ne (by rw [← e]; exact hp)
  have h0 := c0.1.1.ne
  refine ⟨_, rfl, _, rfl, _, _, rfl, rfl, ?_⟩
  refine ⟨d, sc, _, rfl, rfl, c0.1.keep s0, by omega, by omega, fun r H1 r0 r1 b1 d1 => ?_⟩
  obtain ⟨k, rfl, hk⟩ := draw_of r0 r1
  refine ⟨_, rfl, by omega, by omega, ?_⟩
  have hp1 : H1 p = some (.lst []) := b1.get hne upd_same
  have st : BI K ks H0 d sc p deep 0 (bB deep 1) H1 := by
    refine ⟨[], [], fun c u z => ?_, d1.1, hp1, .nil, rfl, rfl, by simp [dB], rfl, by simp [cB], rfl⟩
    by_cases hc : c = d
    · rw [hc, del_same] at z
      cases z
    · rw [del_ne hc] at z
      have hcp : c ≠ p := fun q => by
        rw [q, hp] at z
        cases z
      rw [del_ne hcp, del_ne hc]
      exact b1.get hc (s0 _ _ z)
  rw [show ((k : Int)).toNat = k from rfl]
  refine for_it (walk_range (lo := 0) (n := k)) (fun i σ H' => BI K ks H0 d sc p deep i (bB deep 1) H' ∧ ∃ v5 v6 v7 v8, σ = [some (.ref d), some (.ref nm), some (.int deep), some (.int m), some (.ref p), v5, v6, v7, v8]) ⟨st, _, _, _, _, rfl⟩ (fun _ _ _ _ _ => trivial) ?_ ?_
  · rintro i x σ H2 H3 hi ⟨⟨l, acc, i1, i2, i3, i4, i5, i6, i7, i8, i9, i10⟩, v5, v6, v7, v8, rfl⟩ ⟨rfl, rfl⟩
    have c2 := bi_ctx c0 i1 i2
    have step := fun (H3 : Hp) (v : V) (s : Stm) => bi_step (ks := ks) (H2 := H3) (v := v) (s := s) h0 hp hne l acc i1 i2 i3 i4 i5 i6 i7 i8 i9 i10
    have bB1 : 1 ≤ bB deep 1 := by
      cases deep with
      | zero => exact Nat.le_refl _
      | succ n => show 1 ≤ 1 * _; omega
    have ll : acc.length ≤ 1000 := by
      rw [DpAll.len i4, encB_map, List.length_map, i8]
      omega
    refine ⟨_, rfl, d, sc, _, rfl, rfl, c2.1, by decide, by decide, fun at_ H4 a0 a1 b4 d4 => ?_⟩
    have c4 := c2.but b4 d4
    have hp4 := b4.get hne i3
    refine ⟨_, rfl, _, _, rfl, rfl, _, rfl, ?_⟩
    refine ifB (fun _ => ifT rfl ?_) (fun hde => ?_)
    · refine ⟨_, rfl, .inl ⟨rfl, _, SqL.of hp4⟩, ?_⟩
      refine ⟨_, rfl, _, rfl, d, sc, nm, ks, rfl, rfl, c4, fun s v H5 fs ws vs5 b5 d5 hv => ?_⟩
      refine ⟨p, acc, v, rfl, rfl, b5.get hne hp4, small1000 ll, ?_⟩
      exact ⟨step H5 v s (b4.trans b5) d5.1 (Dp.keep (nw_back (gro_but b4 d4.1.ne)) hv) ws (flat_kS fs) (by rw [(flat_d fs).1]; omega) (by rw [(flat_d fs).2]; exact bB1) vs5, _, _, _, _, rfl⟩
    refine ⟨_, rfl, _, _, rfl, rfl, _, rfl, ?_⟩
    refine ifB (fun _ => ?_) (fun hat => ?_)
    · refine ⟨_, rfl, .inl ⟨rfl, _, SqL.of hp4⟩, ?_⟩
      refine ⟨_, rfl, _, rfl, d, sc, nm, ks, rfl, rfl, c4, fun s v H5 fs ws vs5 b5 d5 hv => ?_⟩
      refine ⟨p, acc, v, rfl, rfl, b5.get hne hp4, small1000 ll, ?_⟩
      exact ⟨step H5 v s (b4.trans b5) d5.1 (Dp.keep (nw_back (gro_but b4 d4.1.ne)) hv) ws (flat_kS fs) (by rw [(flat_d fs).1]; omega) (by rw [(flat_d fs).2]; exact bB1) vs5, _, _, _, _, rfl⟩
    have hd1 : 1 ≤ deep := by
      have : ¬ ((deep : Int) < 1) := of_decide_eq_false hde
      omega
    obtain ⟨e, rfl⟩ : ∃ e, deep = e + 1 := ⟨deep - 1, by omega⟩
    have hbe : bB (e + 1) 1 = 1 + max (2 * bB e 2) (bB e 3) := by show 1 * _ = _; omega
    have hm0 : 1 ≤ m := by omega
    have hbe2 : bB (e + 1) 1 ≤ 1000 := by
      have := bB_mul (e + 1) m
      have := Nat.le_mul_of_pos_left (bB (e + 1) 1) hm0
      omega
    have hde1 : V.int (((e + 1 : Nat) : Int) - 1) = V.int (e : Nat) := congrArg V.int (by omega)
    refine ⟨_, rfl, rfl, _, rfl, ?_⟩
    refine ifB (fun _ => ?_) (fun _ => ?_)
    · -- two bodies
      refine ⟨_, rfl, _, rfl, _, rfl, _, _, rfl, rfl, ?_⟩
      refine ⟨d, sc, nm, ks, e, 2, rfl, rfl, hde1, rfl, by omega, by omega, by omega, c4, fun ra la ya H5 wa ka va da ca b5 d5 na hra hya => ?_⟩
      have c5 := c4.but b5 d5
      refine ⟨_, rfl, _, rfl, _, rfl, _, _, rfl, rfl, ?_⟩
      refine ⟨d, sc, nm, ks, e, 2, rfl, rfl, hde1, rfl, by omega, by omega, by omega, c5, fun rb lb yb H6 wb kb vb db cb b6 d6 nb hrb hyb => ?_⟩
      have c6 := c5.but b6 d6
      have da1 : Dp K (nw H4 H5) (.ref ra) (seqD true (encB true la)) := .lst (SqL.of (by rw [nw_new na]; exact hra)) (DpAll.keep (del_sm _ _) hya)
      have db1 : Dp K (nw H5 H6) (.ref rb) (seqD true (encB true lb)) := .lst (SqL.of (by rw [nw_new nb]; exact hrb)) (DpAll.keep (del_sm _ _) hyb)
      have da2 : Dp K (nw H3 H6) (.ref ra) (seqD true (encB true la)) := Dp.keep ((nw_back (gro_but b4 d4.1.ne)).trans (nw_but b6 c2.1.1.ne)) da1
      have db2 : Dp K (nw H3 H6) (.ref rb) (seqD true (encB true lb)) := Dp.keep (nw_back ((gro_but b4 d4.1.ne).trans (gro_but b5 d5.1.ne))) db1
      have b46 := b4.trans (b5.trans b6)
      have hp6 : H6 p = some (.lst acc) := b46.get hne i3
      refine ⟨_, rfl, d, sc, _, rfl, rfl, d6, by decide, by decide, fun r7 H7 _ _ b7 d7 => ?_⟩
      refine ⟨rfl, _, rfl, ?_⟩
      have hp7 := b7.get hne hp6
      refine ifB (fun _ => ?_) (fun _ => ?_)
      · refine ⟨_, rfl, .inl ⟨rfl, _, SqL.of hp7⟩, ?_⟩
        refine ⟨_, rfl, d, sc, rfl, d7, fun z H8 wz b8 d8 => ?_⟩
        refine ⟨_, rfl, d, sc, _, rfl, rfl, d8, by decide, by decide, fun r9 H9 n0 n1 b9 d9 => ?_⟩
        refine ⟨_, rfl, _, rfl, (by show 5 ≤ sizeLine; decide), fun t ht => ?_⟩
        have bb := b46.trans (b7.trans (b8.trans b9))
        have b79 := b7.trans (b8.trans b9)
        refine ⟨p, acc, .ref t, rfl, rfl, smNew1 ht _ _ _ (bb.get hne i3), small1000 ll, ?_⟩
        refine ⟨step _ (.ref t) (.ite z r9 la lb) (bb.trans (but_sm (smNew1 ht _))) (d9.1.keep (smNew1 ht _)) ?_ ?_ ?_ ?_ ?_ ?_, _, _, _, _, rfl⟩
        · refine .tup (SqT.of (nw_obj ht (gro_but bb d9.1.ne))) ?_
          have ek : Same (nw H3 H6) (nw H3 (upd H9 t (.tup [.str "if", .str z, .int r9, .ref ra, .ref rb]))) := (nw_but b79 c2.1.1.ne).trans (nw_keep (smNew1 ht _))
          exact .cons (.str _) (.cons (.str _) (.cons (.int _) (.cons (Dp.keep ek da2) (.cons (Dp.keep ek db2) .nil))))
        · show (isWord z && (decide _ && decide _) && (wB la && wB lb)) = true
          rw [vars_word _ wz, wa, wb, decide_eq_true (by omega), decide_eq_true (by omega)]
          rfl
        · show (kB ks la && kB ks lb) = true
          rw [ka, kb]
          rfl
        · show max (dB la) (dB lb) ≤ e + 1
          omega
        · show 1 + cB la + cB lb ≤ _
          omega
        · show (isV z && (vB la && vB lb)) = true
          rw [isV_of wz, va, vb]
          rfl
      · refine ⟨_, rfl, .inl ⟨rfl, _, SqL.of hp7⟩, ?_⟩
        refine ⟨_, rfl, d, sc, rfl, d7, fun z H8 wz b8 d8 => ?_⟩
        refine ⟨_, rfl, d, sc, rfl, d8, fun z2 H9 wz2 b9 d9 => ?_⟩
        refine ⟨_, rfl, _, rfl, (by show 5 ≤ sizeLine; decide), fun t ht => ?_⟩
        have bb := b46.trans (b7.trans (b8.trans b9))
        have b79 := b7.trans (b8.trans b9)
        refine ⟨p, acc, .ref t, rfl, rfl, smNew1 ht _ _ _ (bb.get hne i3), small1000 ll, ?_⟩
        refine ⟨step _ (.ref t) (.same z z2 la lb) (bb.trans (but_sm (smNew1 ht _))) (d9.1.keep (smNew1 ht _)) ?_ ?_ ?_ ?_ ?_ ?_, _, _, _, _, rfl⟩
        · refine .tup (SqT.of (nw_obj ht (gro_but bb d9.1.ne))) ?_
          have ek : Same (nw H3 H6) (nw H3 (upd H9 t (.tup [.str "same", .str z, .str z2, .ref ra, .ref rb]))) := (nw_but b79 c2.1.1.ne).trans (nw_keep (smNew1 ht _))
          exact .cons (.str _) (.cons (.str _) (.cons (.str _) (.cons (Dp.keep ek da2) (.cons (Dp.keep ek db2) .nil))))
        · show (isWord z && isWord z2 && (wB la && wB lb)) = true
          rw [vars_word _ wz, vars_word _ wz2, wa, wb]
          rfl
        · show (kB ks la && kB ks lb) = true
          rw [ka, kb]
          rfl
        · show max (dB la) (dB lb) ≤ e + 1
          omega
        · show 1 + cB la + cB lb ≤ _
          omega
        · show (isV z && isV z2 && (vB la && vB lb)) = true
          rw [isV_of wz, isV_of wz2, va, vb]
          rfl
    · -- repeat
      refine ⟨_, rfl, .inl ⟨rfl, _, SqL.of hp4⟩, ?_⟩
      refine ⟨_, rfl, d, sc, _, rfl, rfl, d4, by decide, by decide, fun r5 H5 n0 n1 b5 d5 => ?_⟩
      have c5 := c4.but b5 d5
      refine ⟨_, rfl, _, rfl, _, rfl, _, _, rfl, rfl, ?_⟩
      refine ⟨d, sc, nm, ks, e, 3, rfl, rfl, hde1, rfl, by omega, by omega, by omega, c5, fun ra la ya H6 wa ka va da ca b6 d6 na hra hya => ?_⟩
      refine ⟨(by show 3 ≤ sizeLine; decide), fun t ht => ?_⟩
      have da1 : Dp K (nw H5 H6) (.ref ra) (seqD true (encB true la)) := .lst (SqL.of (by rw [nw_new na]; exact hra)) (DpAll.keep (del_sm _ _) hya)
      have bb := b4.trans (b5.trans b6)
      refine ⟨p, acc, .ref t, rfl, rfl, smNew1 ht _ _ _ (bb.get hne i3), small1000 ll, ?_⟩
      refine ⟨step _ (.ref t) (.rep r5 la) (bb.trans (but_sm (smNew1 ht _))) (d6.1.keep (smNew1 ht _)) ?_ ?_ ?_ ?_ ?_ ?_, _, _, _, _, rfl⟩
      · refine .tup (SqT.of (nw_obj ht (gro_but bb d6.1.ne))) ?_
        exact .cons (.str _) (.cons (.int _) (.cons (Dp.keep ((nw_back ((gro_but b4 d4.1.ne).trans (gro_but b5 d5.1.ne))).trans (nw_keep (smNew1 ht _))) da1) .nil))
      · show (decide _ && decide _ && wB la) = true
        rw [wa, decide_eq_true (by omega), decide_eq_true (by omega)]
        rfl
      · exact ka
      · exact da
      · show 1 + cB la ≤ _
        omega
      · exact va
  · rintro σ H2 ⟨⟨l, acc, i1, i2, i3, i4, i5, i6, i7, i8, i9, i10⟩, v5, v6, v7, v8, rfl⟩
    refine ⟨_, rfl, ?_⟩
    have c2 := bi_ctx c0 i1 i2
    refine q p l acc H2 i5 i6 i10 i7 ?_ (i1.trans (del_sm _ _)) c2.1 hp i3 i4
    rw [bB_mul]
    exact Nat.le_trans i9 (Nat.mul_le_mul_right _ (by omega))
theorem c_law_body (T : Top w K mg) : ∀ n, Cal P w K mg base CX0 (n + 4) "_law_body" (spBody K n)
  | 0 => cal_never (f_law_body T) (g_law_body T) (ps := ["_law_draws", "_law_names", "_law_deep", "_law_most"]) (fun _ _ _ _ _ _ us hl => match us, hl with | [_, _, _, _], _ => rfl) fun vs H Q E h => by
      match vs, h with
      | [x, y, z, u], h =>
      obtain ⟨d, sc, nm, ks, deep, m, _, _, _, _, hn, _⟩ := h
      omega
  | n + 1 => ok_law_body T (c_law_body T n)
end
end RM

set_option Elab.async false
set_option linter.all false
set_option maxRecDepth 100000
set_option maxHeartbeats 4000000
namespace RM
open PySem PySem.Spec PyProof.Rows L2
theorem ty_flat {K : PySem.W.Frag} {H : Hp} {x : V} {d : PyData} (h : Dp K H x d) (f : (∃ z, d = .str z) ∨ ∃ n, d = .int n) : ∃ t, TyX K H x t ∧ PySem.W.kitAny K t [.type "list", .type "tuple"] = some false := by
  rcases f with ⟨z, rfl⟩ | ⟨n, rfl⟩
  · obtain rfl := Dp.str_inv h
    exact ⟨.type "str", .base (.str _), kitAny_cons (b := false) (kit_ty (by decide +kernel)) (fun _ => kitAny_cons (b := false) (kit_ty (by decide +kernel)) (fun _ => rfl) (fun z => by cases z)) (fun z => by cases z)⟩
  · obtain rfl := Dp.int_inv h
    exact ⟨.type "int", .base (.int _), kitAny_cons (b := false) (kit_ty (by decide +kernel)) (fun _ => kitAny_cons (b := false) (kit_ty (by decide +kernel)) (fun _ => rfl) (fun z => by cases z)) (fun z => by cases z)⟩
section
variable {P : Program} {w : World} {K : PySem.W.Frag} {mg : Str → Option Value} {base : Heap}
/-! ### _law_size -/
def spLSize (K : PySem.W.Frag) (n : Nat) : Sp := fun vs H Q _ => match vs with
  | [b] => ∃ (fl : Bool) (l : List Stm), Dp K H b (seqD fl (encB fl l)) ∧ dB l ≤ n ∧ ∀ H', Same H H' → Q (.int (cB l : Nat)) H'
  | _ => False
theorem sc_law_size : FnScope ["_law_body_here", "_law_many", "_law_one", "_law_part"] ["_law_body_here"] (defScope s_law_size) := ⟨rfl, rfl, rfl, by decide +kernel, rfl, by decide +kernel, by decide +kernel⟩
theorem ok_law_size (T : Top w K mg) {n : Nat} (ih : Cal P w K mg base CX0 (n + 1) "_law_size" (spLSize K n)) : Cal P w K mg base CX0 (n + 2) "_law_size" (spLSize K (n + 1)) := by
  refine cal_0 (f_law_size T) (g_law_size T) sc_law_size (fun _ _ _ _ _ _ us hl => match us, hl with | [_], _ => rfl) (fun vs H Q E h => match vs, h with | [_], _ => rfl) (fun cdv A outer s H vs Q E hr h => ?_)
  match vs, h with
  | [b], h =>
  obtain ⟨fl, l, hb, hn, q⟩ := h
  obtain ⟨a, xs, rfl, ha, hx⟩ := seqD_inv hb
  have lx : xs.length = l.length := by rw [DpAll.len hx, encB_map, List.length_map]
  refine ⟨_, (pss_cons (ps_set (i := 1) sc_law_size.nd rfl (Or.inl rfl) (pcb (z_len T) call_len_seq boot_len (pa_cons (pv 0) pa_nil)))
    (pss_cons (ps_for PassesOwn.never rfl (pi_seqA (pv 0)) (pg_name (i := 2) sc_law_size.nd rfl (Or.inl rfl))
      (pss_one (ps_set (i := 1) sc_law_size.nd rfl (Or.inl rfl) (pe_op op_add (pv 1) (pcb (z_sum T) (cr_sum rfl) boot_sum (pa_cons (pe_lc (own := [("_law_part", 3)]) rfl sc_law_size.nd (pi_seqA (pe_slice sl_tup (pv 2) (po_some pe_int) po_none)) (blkOk_by (own := [("_law_part", 3)]) (N := ["_law_body_here", "_law_many", "_law_one", "_law_part"]) (sc := defScope s_law_size) (by decide +kernel)) (fun _ _ _ _ _ => (pg_name (i := 3) sc_law_size.nd rfl (Or.inl rfl) (Or.inr rfl))) (fun _ _ _ _ _ => (pts_one (pt_val (pcb (z_isinstance T) (call_isiT' (K := K) rfl) boot_isinstance (pa_cons (pv 3) (pa_cons (pe_tup (pa_cons (pty (z_list T) boot_list) (pa_cons (pty (z_tuple T) boot_tuple) pa_nil))) pa_nil)))))) (fun _ _ _ _ _ => (pc ih hr (pa_cons (pv 3) pa_nil)))) pa_nil))))))
    (pss_one (ps_ret (pv 1))))), ?_⟩
  refine ⟨_, rfl, a, xs, rfl, ha, ?_⟩
  refine ⟨_, rfl, ?_⟩
  refine seqA_of ha (Same.refl H) fun J wk => ?_
  refine for_it wk (fun i σ H' => Same H H' ∧ ∃ v2 v3, σ = [some (.ref a), some (.int (((cB (l.take i) + (l.length - i) : Nat)) : Int)), v2, v3]) ⟨Same.refl H, none, none, ?_⟩ (fun i σ H' _ h => h.1) ?_ ?_
  · rw [List.take_zero, ← lx]
    show _ = [_, some (V.int ((0 + (xs.length - 0) : Nat) : Int)), _, _]
    rw [Nat.zero_add, Nat.sub_zero]
    rfl
  · rintro i x σ H1 H2 hi ⟨s1, v2, v3, rfl⟩ ⟨rfl, hx1⟩
    obtain ⟨d, hd1, hd2⟩ := DpAll.getV hx hx1
    obtain ⟨st, hst, rfl⟩ := encB_get hd1
    have hm : st ∈ l := List.mem_of_getElem? hst
    have dm := dB_mem hm
    obtain ⟨sa, sxs, rfl, hsa, hsx⟩ := shape_of (Dp.keep s1 hd2)
    refine ⟨_, rfl, ?_⟩
    refine ⟨_, rfl, _, rfl, _, _, rfl, hsa, cut_not, fun p hp => ?_⟩
    rw [cut_tail]
    have s2 := smNew1 hp (.tup sxs)
    refine seqA_of (.inr (SqT.of upd_same)) (Same.refl _) fun J2 wk2 => ?_
    intro D nD
    have hl : sxs.length = st.flats.length + st.bodies.length := by
      rw [DpAll.len hsx, List.length_append, List.length_map]
    refine lc_opt wk2 (fun (c : Nat) y _ => y = .int (c : Nat)) (fun i => if i < st.flats.length then none else (st.bodies[i - st.flats.length]?).map cB) nD (small1000 (by have := form_five st; have := ShapeS.items hsx; omega)) (fun H' e => e) (fun _ _ _ _ h _ => h) (fun _ _ _ _ _ h _ => h) ?_ ?_
    · rintro j y H3 H4 N hj e ⟨rfl, hy⟩ hk hno
      obtain ⟨d, hd3, hd4⟩ := DpAll.getV hsx hy
      have hd5 := Dp.keep (s2.trans e) hd4
      refine ⟨rfl, ?_⟩
      refine ⟨_, rfl, (by show 2 ≤ sizeLine; decide), fun p2 hp2 => ?_⟩
      have s3 := smNew1 hp2 (.tup [.ty "list", .ty "tuple"])
      rcases item_at st _ hd3 with ⟨hf, hflat⟩ | ⟨hf, bd, hbm, hba, rfl⟩
      · obtain ⟨ty, ht, hk2⟩ := ty_flat (Dp.keep s3 hd5) hflat
        refine ⟨_, p2, _, ty, _, false, rfl, upd_same, .cons (.ty _) (.cons (.ty _) .nil), ht, hk2, _, rfl, ifF rfl ?_⟩
        exact hno (if_pos hf) _ s3
      · obtain ⟨ba, bxs, rfl, hb1, hb2⟩ := seqD_inv hd5
        obtain ⟨ty, ht, hk2⟩ := ty_seq hb1 s3
        refine ⟨_, p2, _, ty, _, true, rfl, upd_same, .cons (.ty _) (.cons (.ty _) .nil), ht, hk2, _, rfl, ifT rfl ?_⟩
        have := dS_mem hbm
        refine ⟨_, rfl, fl, bd, Dp.keep s3 hd5, by omega, fun H5 e5 => ?_⟩
        exact hk _ _ (cB bd) (by rw [if_neg hf, hba]; rfl) (s3.trans e5) rfl
    · intro H3 ys e hD hp'
      rw [hl, bodies_from] at hp'
      have hys := paired_eq hp'
      have hys2 : ys = ((st.bodies.map cB).map fun c : Nat => (c : Int)).map V.int := by rw [hys, List.map_map, List.map_map, List.map_map]; rfl
      refine ⟨D, _, rfl, SqL.of (by rw [hD, hys2]), ?_⟩
      refine ⟨_, _, rfl, rfl, ?_⟩
      refine ⟨s1.trans (s2.trans e), some (.ref sa), v3, ?_⟩
      have e1 : V.int (((cB (l.take i) + (l.length - i) : Nat) : Int) + ((st.bodies.map cB).map fun c : Nat => (c : Int)).sum) = V.int ((cB (l.take (i + 1)) + (l.length - (i + 1)) : Nat) : Int) := by
        rw [cB_take hst, cS_eq, List.map_map]
        have := cBs_sum st.bodies
        have e2 : (st.bodies.map ((fun c : Nat => (c : Int)) ∘ cB)) = st.bodies.map fun b => ((cB b : Nat) : Int) := rfl
        rw [e2, this]
        exact congrArg V.int (by omega)
      rw [← e1]
      rfl
  · rintro σ H1 ⟨s1, v2, v3, rfl⟩
    refine ⟨_, rfl, ?_⟩
    rw [lx, List.take_length, Nat.sub_self, Nat.add_zero]
    exact q H1 s1
theorem c_law_size (T : Top w K mg) : ∀ n, Cal P w K mg base CX0 (n + 1) "_law_size" (spLSize K n)
  | 0 => cal_never (f_law_size T) (g_law_size T) (ps := ["_law_body_here"]) (fun _ _ _ _ _ _ us hl => match us, hl with | [_], _ => rfl) fun vs H Q E h => by
      match vs, h with
      | [b], h =>
      obtain ⟨fl, l, _, hn, _⟩ := h
      have := dB_one l
      omega
  | n + 1 => ok_law_size T (c_law_size T n)
/-! ### _law_prints -/
def isP : Stm → Bool
  | .print _ => true | _ => false
def turnsS : Stm → Int
  | .rep n _ => n | _ => 1
def pM : Stm → Nat
  | .print _ => 1 | .ite _ _ a b => max (pB a) (pB b) | .same _ _ a b => max (pB a) (pB b) | .rep _ a => pB a | _ => 0
theorem isP_word (s : Stm) : decide (V.str s.word = V.str "print") = isP s := by
  cases s <;> rfl
theorem word_rep (s : Stm) : s.word = "repeat" ↔ ∃ n a, s = .rep n a := by
  constructor
  · intro h
    cases s <;> first | exact ⟨_, _, rfl⟩ | exact absurd (show _ = (_ : Str) from h) (by simp only [Stm.word]; decide)
  · rintro ⟨n, a, rfl⟩
    rfl
def pNs (s : Stm) : List Int := (if isP s = true then 1 else 0) :: s.bodies.map fun b => ((pB b : Nat) : Int)
theorem pMax {s : Stm} {m : Int} (h1 : m ∈ pNs s) (h2 : ∀ y ∈ pNs s, y ≤ m) : m = (pM s : Nat) := by
  unfold pNs at h1 h2
  cases s <;> simp only [isP, Stm.bodies, List.map_nil, List.map_cons, List.mem_cons, List.not_mem_nil, or_false, if_true, if_false, Bool.false_eq_true, forall_eq_or_imp, forall_eq, pM] at h1 h2 ⊢ <;> omega
theorem pS_eq {s : Stm} (h : wS s = true) : turnsS s * ((pM s : Nat) : Int) = ((pS s : Nat) : Int) := by
  cases s <;> simp only [turnsS, pM, pS, Int.one_mul]
  rename_i n a
  simp only [wS, Bool.and_eq_true, decide_eq_true_eq] at h
  have : (n.toNat : Int) = n := by omega
  rw [Int.natCast_mul, this]
def spLPrints (K : PySem.W.Frag) (n : Nat) : Sp := fun vs H Q _ => match vs with
  | [b] => ∃ (fl : Bool) (l : List Stm), Dp K H b (seqD fl (encB fl l)) ∧ wB l = true ∧ dB l ≤ n ∧ ∀ H', Same H H' → Q (.int (pB l : Nat)) H'
  | _ => False
theorem sc_law_prints : FnScope ["_law_body_here", "_law_many", "_law_one", "_law_inner", "_law_turns", "_law_part"] ["_law_body_here"] (defScope s_law_prints) := ⟨rfl, rfl, rfl, by decide +kernel, rfl, by decide +kernel, by decide +kernel⟩
theorem ok_law_prints (T : Top w K mg) {n : Nat} (ih : Cal P w K mg base CX0 (n + 1) "_law_prints" (spLPrints K n)) : Cal P w K mg base CX0 (n + 2) "_law_prints" (spLPrints K (n + 1)) := by
  refine cal_0 (f_law_prints T) (g_law_prints T) sc_law_prints (fun _ _ _ _ _ _ us hl => match us, hl with | [_], _ => rfl) (fun vs H Q E h => match vs, h with | [_], _ => rfl) (fun cdv A outer s H vs Q E hr h => ?_)
  match vs, h with
  | [b], h =>
  obtain ⟨fl, l, hb, hw, hn, q⟩ := h
  obtain ⟨a, xs, rfl, ha, hx⟩ := seqD_inv hb
  have lx : xs.length = l.length := by rw [DpAll.len hx, encB_map, List.length_map]
  refine ⟨_, (pss_cons (ps_set (i := 1) sc_law_prints.nd rfl (Or.inl rfl) pe_int)
    (pss_cons (ps_for PassesOwn.never rfl (pi_seqA (pv 0)) (pg_name (i := 2) sc_law_prints.nd rfl (Or.inl rfl))
      (pss_cons (ps_setLc (i := 3) (own := [("_law_part", 5)]) rfl sc_law_prints.nd rfl rfl (sw_true rfl rfl rfl (by decide +kernel)) (pi_seqA (pe_slice sl_tup (pv 2) (po_some pe_int) po_none)) (blkOk_by (own := [("_law_part", 5)]) (N := ["_law_body_here", "_law_many", "_law_one", "_law_inner", "_law_turns", "_law_part"]) (sc := defScope s_law_prints) (by decide +kernel)) (fun _ _ _ _ _ => (pg_name (i := 5) sc_law_prints.nd rfl (Or.inl rfl) (Or.inr rfl))) (fun _ _ _ _ _ => (pts_one (pt_val (pcb (z_isinstance T) (call_isiT' (K := K) rfl) boot_isinstance (pa_cons (pv 5) (pa_cons (pe_tup (pa_cons (pty (z_list T) boot_list) (pa_cons (pty (z_tuple T) boot_tuple) pa_nil))) pa_nil)))))) (fun _ _ _ _ _ => (pc ih hr (pa_cons (pv 5) pa_nil))))
    (pss_cons (ps_set (i := 4) sc_law_prints.nd rfl (Or.inl rfl) (pe_ifExp (pt_cmpR op_eq (pe_ix ix_tup (pv 2) pe_int (fun _ _ => rfl)) pe_str (nomark _)) (pe_ix ix_tup (pv 2) pe_int (fun _ _ => rfl)) pe_int))
    (pss_one (ps_set (i := 1) sc_law_prints.nd rfl (Or.inl rfl) (pe_op op_add (pv 1) (pe_op op_mul (pv 4) (pcb (z_max T) (cr_max rfl) boot_max (pa_cons (pe_op op_cat (pe_lst (pa_cons (pct (z_int T) call_int1 boot_int (pa_cons (pe_cmpR op_eq (pe_ix ix_tup (pv 2) pe_int (fun _ _ => rfl)) pe_str (nomark _)) pa_nil)) pa_nil)) (pv 3)) pa_nil)))))))))
    (pss_one (ps_ret (pv 1))))), ?_⟩
  refine ⟨_, rfl, ?_⟩
  refine seqA_of ha (Same.refl H) fun J wk => ?_
  refine for_it wk (fun i σ H' => Same H H' ∧ ∃ v2 v3 v4 v5, σ = [some (.ref a), some (.int ((pB (l.take i) : Nat) : Int)), v2, v3, v4, v5]) ⟨Same.refl H, none, none, none, none, rfl⟩ (fun i σ H' _ h => h.1) ?_ ?_
  · rintro i x σ H1 H2 hi ⟨s1, v2, v3, v4, v5, rfl⟩ ⟨rfl, hx1⟩
    obtain ⟨d, hd1, hd2⟩ := DpAll.getV hx hx1
    obtain ⟨st, hst, rfl⟩ := encB_get hd1
    have hm : st ∈ l := List.mem_of_getElem? hst
    have dm := dB_mem hm
    have ws := wB_all hw st hm
    obtain ⟨sa, sxs, rfl, hsa, hsx⟩ := shape_of (Dp.keep s1 hd2)
    refine ⟨_, rfl, _, rfl, _, _, rfl, hsa, cut_not, fun p hp => ?_⟩
    rw [cut_tail]
    have s2 := smNew1 hp (.tup sxs)
    refine seqA_of (.inr (SqT.of upd_same)) (Same.refl _) fun J2 wk2 => ?_
    intro D nD
    have hl : sxs.length = st.flats.length + st.bodies.length := by
      rw [DpAll.len hsx, List.length_append, List.length_map]
    have hb4 : st.bodies.length ≤ 2 := by cases st <;> simp [Stm.bodies]
    have hl4 : sxs.length ≤ 4 := by have := form_five st; have := ShapeS.items hsx; omega
    refine lc_opt wk2 (fun (c : Nat) y _ => y = .int (c : Nat)) (fun i => if i < st.flats.length then none else (st.bodies[i - st.flats.length]?).map pB) nD (small1000 (by omega)) (fun H' e => e) (fun _ _ _ _ h _ => h) (fun _ _ _ _ _ h _ => h) ?_ ?_
    · rintro j y H3 H4 N hj e ⟨rfl, hy⟩ hk hno
      obtain ⟨d, hd3, hd4⟩ := DpAll.getV hsx hy
      have hd5 := Dp.keep (s2.trans e) hd4
      refine ⟨rfl, ?_⟩
      refine ⟨_, rfl, (by show 2 ≤ sizeLine; decide), fun p2 hp2 => ?_⟩
      have s3 := smNew1 hp2 (.tup [.ty "list", .ty "tuple"])
      rcases item_at st _ hd3 with ⟨hf, hflat⟩ | ⟨hf, bd, hbm, hba, rfl⟩
      · obtain ⟨ty, ht, hk2⟩ := ty_flat (Dp.keep s3 hd5) hflat
        refine ⟨_, p2, _, ty, _, false, rfl, upd_same, .cons (.ty _) (.cons (.ty _) .nil), ht, hk2, _, rfl, ifF rfl ?_⟩
        exact hno (if_pos hf) _ s3
      · obtain ⟨ba, bxs, rfl, hb1, hb2⟩ := seqD_inv hd5
        obtain ⟨ty, ht, hk2⟩ := ty_seq hb1 s3
        refine ⟨_, p2, _, ty, _, true, rfl, upd_same, .cons (.ty _) (.cons (.ty _) .nil), ht, hk2, _, rfl, ifT rfl ?_⟩
        have := dS_mem hbm
        refine ⟨_, rfl, fl, bd, Dp.keep s3 hd5, wB_of ws bd hbm, by omega, fun H5 e5 => ?_⟩
        exact hk _ _ (pB bd) (by rw [if_neg hf, hba]; rfl) (s3.trans e5) rfl
    · intro H3 ys e hD hp'
      rw [hl, bodies_from] at hp'
      have hys := paired_eq hp'
      have hys2 : ys = (st.bodies.map fun b => ((pB b : Nat) : Int)).map V.int := by rw [hys, List.map_map, List.map_map]; rfl
      have s4 : Same H H3 := s1.trans (s2.trans e)
      have hsa3 : SqT K H3 sa (.str st.word :: sxs) := smT (s2.trans e) hsa
      -- the turns
      refine ⟨_, rfl, _, _, _, _, rfl, rfl, hsa3, at0, rfl, _, rfl, ?_⟩
      refine ifB (fun c => ?_) (fun c => ?_)
      · obtain ⟨n', bd, rfl⟩ := (word_rep st).mp (V.str.inj (of_decide_eq_true c))
        obtain ⟨z1, r1, rfl, hz1, hz2⟩ := DpAll.cons_inv hsx
        obtain rfl := Dp.int_inv hz1
        refine ⟨_, rfl, _, _, _, _, rfl, rfl, hsa3, at1, ?_⟩
        have wn : 0 ≤ n' ∧ n' ≤ 3 := by
          simp only [wS, Bool.and_eq_true, decide_eq_true_eq] at ws
          exact ws.1
        refine ⟨_, rfl, _, rfl, _, rfl, _, _, _, _, rfl, rfl, hsa3, at0, rfl, .inr ⟨_, rfl, ?_⟩⟩
        refine ⟨(by show 1 ≤ sizeLine; decide), fun p3 hp3 => ?_⟩
        have s5 := smNew1 hp3 (.lst [.int (if decide (V.str (Stm.rep n' bd).word = V.str "print") = true then 1 else 0)])
        refine ⟨_, rfl, p3, D, _, _, rfl, rfl, upd_same, s5 _ _ hD, Nat.le_of_lt (small1000 (by rw [hys2, List.length_map, List.length_map]; show 1 + (Stm.rep n' bd).bodies.length ≤ 1000; omega)), fun p4 hp4 => ?_⟩
        have hpn : [V.int (if decide (V.str (Stm.rep n' bd).word = V.str "print") = true then 1 else 0)] ++ ys = (pNs (Stm.rep n' bd)).map V.int := by
          rw [hys2, isP_word]
          rfl
        rw [hpn]
        refine ⟨p4, pNs (Stm.rep n' bd), rfl, SqL.of upd_same, by simp [pNs], fun m m1 m2 => ?_⟩
        have em := pMax m1 m2
        subst em
        refine ⟨_, _, rfl, rfl, .inl ⟨by omega, by omega⟩, _, _, rfl, rfl, ?_⟩
        refine ⟨s4.trans (smNew s5 hp4 _), some (.ref sa), some (.ref D), some (.int n'), v5, ?_⟩
        have e1 : V.int (((pB (l.take i) : Nat) : Int) + turnsS (Stm.rep n' bd) * ((pM (Stm.rep n' bd) : Nat) : Int)) = V.int ((pB (l.take (i + 1)) : Nat) : Int) := by
          rw [pS_eq ws, pB_take hst]
          exact congrArg V.int (by omega)
        rw [← e1]
        rfl
      · have et : turnsS st = 1 := by
          cases st <;> first | rfl | exact absurd rfl (of_decide_eq_false c)
        refine ⟨_, rfl, _, rfl, _, rfl, _, _, _, _, rfl, rfl, hsa3, at0, rfl, .inr ⟨_, rfl, ?_⟩⟩
        refine ⟨(by show 1 ≤ sizeLine; decide), fun p3 hp3 => ?_⟩
        have s5 := smNew1 hp3 (.lst [.int (if decide (V.str st.word = V.str "print") = true then 1 else 0)])
        refine ⟨_, rfl, p3, D, _, _, rfl, rfl, upd_same, s5 _ _ hD, Nat.le_of_lt (small1000 (by rw [hys2, List.length_map, List.length_map]; show 1 + st.bodies.length ≤ 1000; omega)), fun p4 hp4 => ?_⟩
        have hpn : [V.int (if decide (V.str st.word = V.str "print") = true then 1 else 0)] ++ ys = (pNs st).map V.int := by
          rw [hys2, isP_word]
          rfl
        rw [hpn]
        refine ⟨p4, pNs st, rfl, SqL.of upd_same, by simp [pNs], fun m m1 m2 => ?_⟩
        have em := pMax m1 m2
        subst em
        refine ⟨_, _, rfl, rfl, .inl ⟨by decide, by decide⟩, _, _, rfl, rfl, ?_⟩
        refine ⟨s4.trans (smNew s5 hp4 _), some (.ref sa), some (.ref D), some (.int 1), v5, ?_⟩
        have e1 : V.int (((pB (l.take i) : Nat) : Int) + 1 * ((pM st : Nat) : Int)) = V.int ((pB (l.take (i + 1)) : Nat) : Int) := by
          rw [← et, pS_eq ws, pB_take hst]
          exact congrArg V.int (by omega)
        rw [← e1]
        rfl
  · rintro σ H1 ⟨s1, v2, v3, v4, v5, rfl⟩
    refine ⟨_, rfl, ?_⟩
    rw [lx, List.take_length]
    exact q H1 s1
theorem c_law_prints (T : Top w K mg) : ∀ n, Cal P w K mg base CX0 (n + 1) "_law_prints" (spLPrints K n)
  | 0 => cal_never (f_law_prints T) (g_law_prints T) (ps := ["_law_body_here"]) (fun _ _ _ _ _ _ us hl => match us, hl with | [_], _ => rfl) fun vs H Q E h => by
      match vs, h with
      | [b], h =>
      obtain ⟨fl, l, _, _, hn, _⟩ := h
      have := dB_one l
      omega
  | n + 1 => ok_law_prints T (c_law_prints T n)
end
end RM

set_option Elab.async false
set_option linter.all false
set_option maxRecDepth 100000
set_option maxHeartbeats 2000000
set_option pp.maxSteps 400
set_option pp.deepTerms false
namespace RM
open PySem PySem.Spec PyProof.Rows L2
section
variable {P : Program} {w : World} {K : PySem.W.Frag} {mg : Str → Option Value} {base : Heap}
theorem del_keep {H : Hp} {d : Addr} : Same (del H d) H := fun b u z => by
  by_cases hb : b = d
  · rw [hb, del_same] at z
    cases z
  · rwa [del_ne hb] at z
theorem del_none {H : Hp} {d b : Addr} (h : H b = none) : del H d b = none := by
  by_cases hb : b = d
  · rw [hb, del_same]
  · rw [del_ne hb, h]
theorem del_sub {H H' : Hp} {d : Addr} (e : Same H H') (h : H d = none) : Same H (del H' d) := fun b u z => by
  rw [del_ne (ne_of_none z h)]
  exact e b u z
/-! ### _law_lines -/
theorem sc_law_lines : FnScope ["_law_body_here", "_law_indent", "_law_lines_here", "_law_one", "_law_words", "_law_inner", "_law_item", "_law_k", "_law_j"] ["_law_body_here", "_law_indent"] (defScope s_law_lines) := ⟨rfl, rfl, rfl, by decide +kernel, rfl, by decide +kernel, by decide +kernel⟩
theorem ok_law_lines (T : Top w K mg) {n : Nat} (ih : Cal P w K mg base CX0 (n + 1) "_law_lines" (spLines K n)) : Cal P w K mg base CX0 (n + 2) "_law_lines" (spLines K (n + 1)) := by
  refine cal_0 (f_law_lines T) (g_law_lines T) sc_law_lines (fun _ _ _ _ _ _ us hl => match us, hl with | [_, _], _ => rfl) (fun vs H Q E h => match vs, h with | [_, _], _ => rfl) (fun cdv A outer s H vs Q E hr h => ?_)
  match vs, h with
  | [b, i], h =>
  obtain ⟨fl, l, ind, hb, rfl, hw, hn, hc, hi, q⟩ := h
  obtain ⟨a, xs, rfl, ha, hx⟩ := seqD_inv hb
  have lx : xs.length = l.length := by rw [DpAll.len hx, encB_map, List.length_map]
  refine ⟨_, (pss_cons (ps_set (i := 2) sc_law_lines.nd rfl (Or.inl rfl) (pe_lst pa_nil))
    (pss_cons (ps_for PassesOwn.never rfl (pi_seqA (pv 0)) (pg_name (i := 3) sc_law_lines.nd rfl (Or.inl rfl))
      (pss_cons (ps_set (i := 4) sc_law_lines.nd rfl (Or.inl rfl) (pe_lst (pa_cons (pe_ix ix_tup (pv 3) pe_int (fun _ _ => rfl)) pa_nil)))
    (pss_cons (ps_set (i := 5) sc_law_lines.nd rfl (Or.inl rfl) (pe_lst pa_nil))
    (pss_cons (ps_for PassesOwn.never rfl (pi_seqA (pe_slice sl_tup (pv 3) (po_some pe_int) po_none)) (pg_name (i := 6) sc_law_lines.nd rfl (Or.inl rfl))
      (pss_one (ps_if (pt_val (pcb (z_isinstance T) call_isiT boot_isinstance (pa_cons (pv 6) (pa_cons (pe_tup (pa_cons (pty (z_list T) boot_list) (pa_cons (pty (z_tuple T) boot_tuple) pa_nil))) pa_nil))))
      (pss_one (ps_expr (pe_bm PySem.F.plainAttrs_list PySem.F.slot_list_append PySem.F.type_list_append mt_append (pv 5) (pa_cons (pv 6) pa_nil))))
      (pss_one (ps_expr (pe_bm PySem.F.plainAttrs_list PySem.F.slot_list_append PySem.F.type_list_append mt_append (pv 4) (pa_cons (pct (z_str T) cr_str boot_str (pa_cons (pv 6) pa_nil)) pa_nil)))))))
    (pss_cons (ps_expr (pe_bm PySem.F.plainAttrs_list PySem.F.slot_list_append PySem.F.type_list_append mt_append (pv 2) (pa_cons (pe_op op_add_str (pe_join pe_str (pe_lc (own := [("_law_k", 7)]) rfl sc_law_lines.nd (pi_range1 rfl (z_range T) (pa_cons (pv 1) pa_nil)) (blkOk_by (own := [("_law_k", 7)]) (N := ["_law_body_here", "_law_indent", "_law_lines_here", "_law_one", "_law_words", "_law_inner", "_law_item", "_law_k", "_law_j"]) (sc := defScope s_law_lines) (by decide +kernel)) (fun _ _ _ _ _ => (pg_name (i := 7) sc_law_lines.nd rfl (Or.inl rfl) (Or.inr rfl))) (fun _ _ _ _ _ => pts_nil) (fun _ _ _ _ _ => pe_str))) (pe_join pe_str (pv 4))) pa_nil)))
    (pss_one (ps_for PassesOwn.never rfl (pi_range1 rfl (z_range T) (pa_cons (pcb (z_len T) call_len_seq boot_len (pa_cons (pv 5) pa_nil)) pa_nil)) (pg_name (i := 7) sc_law_lines.nd rfl (Or.inl rfl))
      (pss_cons (ps_if (pt_cmpR op_eq (pv 7) pe_int (nomark _))
      (pss_one (ps_expr (pe_bm PySem.F.plainAttrs_list PySem.F.slot_list_append PySem.F.type_list_append mt_append (pv 2) (pa_cons (pe_op op_add_str (pe_join pe_str (pe_lc (own := [("_law_j", 8)]) rfl sc_law_lines.nd (pi_range1 rfl (z_range T) (pa_cons (pv 1) pa_nil)) (blkOk_by (own := [("_law_j", 8)]) (N := ["_law_body_here", "_law_indent", "_law_lines_here", "_law_one", "_law_words", "_law_inner", "_law_item", "_law_k", "_law_j"]) (sc := defScope s_law_lines) (by decide +kernel)) (fun _ _ _ _ _ => (pg_name (i := 8) sc_law_lines.nd rfl (Or.inl rfl) (Or.inr rfl))) (fun _ _ _ _ _ => pts_nil) (fun _ _ _ _ _ => pe_str))) pe_str) pa_nil))))
      pss_nil)
    (pss_one (ps_set (i := 2) sc_law_lines.nd rfl (Or.inl rfl) (pe_op op_cat (pv 2) (pc ih hr (pa_cons (pe_ix ix_list (pv 5) (pv 7) (fun _ _ => rfl)) (pa_cons (pe_op op_add (pv 1) pe_int) pa_nil))))))))))))))
    (pss_one (ps_ret (pv 2))))), ?_⟩
  refine ⟨(by show 0 ≤ sizeLine; decide), fun fd nfd => ?_⟩
  have s0 := smNew1 nfd (.lst [])
  refine ⟨_, rfl, ?_⟩
  refine seqA_of ha s0 fun J wk => ?_
  refine for_it wk (fun i σ H' => Same H H' ∧ ∃ f, H f = none ∧ H' f = some (.lst ((lnB ind (l.take i)).map V.str)) ∧ ∃ v3 v4 v5 v6 v7 v8, σ = [some (.ref a), some (.int ind), some (.ref f), v3, v4, v5, v6, v7, v8])
    ⟨s0, fd, nfd, upd_same, _, _, _, _, _, _, rfl⟩ (fun i σ H' _ h => h.1) ?_ ?_
  · rintro i x σ H1 H2 hi' ⟨s1, f, nf, hf, v3, v4, v5, v6, v7, v8, rfl⟩ ⟨rfl, hx1⟩
    obtain ⟨d, hd1, hd2⟩ := DpAll.getV hx hx1
    obtain ⟨st, hst, rfl⟩ := encB_get hd1
    have hm : st ∈ l := List.mem_of_getElem? hst
    have hwl := wl_of (wB_all hw st hm)
    obtain ⟨sa, sxs, rfl, hsa, hsx⟩ := shape_of hd2
    obtain ⟨us, ws, rfl, hus, hbs⟩ := DpAll.app_inv hsx
    have lus : us.length = st.flats.length := DpAll.len hus
    have lws : ws.length = st.bodies.length := by rw [DpAll.len hbs, List.length_map]
    have hsa1 := smT s1 hsa
    have fl2 := flats_len st
    have bl2 : st.bodies.length ≤ 2 := by rcases bodies_cases st with h0 | ⟨b1, h0⟩ | ⟨b1, b2, h0⟩ <;> rw [h0] <;> simp
    -- words, inner, the slice
    refine ⟨_, rfl, _, _, _, _, rfl, rfl, hsa1, at0, (by show 1 ≤ sizeLine; decide), fun p1 np1 => ?_⟩
    refine ⟨(by show 0 ≤ sizeLine; decide), fun p2 np2 => ?_⟩
    have t1 := smNew1 np1 (.lst [.str st.word])
    have t2 := smNew t1 np2 (.lst [])
    refine ⟨_, rfl, _, rfl, _, _, rfl, smT t2 hsa1, cut_not, fun p3 np3 => ?_⟩
    rw [cut_tail]
    have t3 := smNew t2 np3 (.tup (us ++ ws))
    generalize hH3 : upd (upd (upd H2 p1 (.lst [.str st.word])) p2 (.lst [])) p3 (.tup (us ++ ws)) = H3 at t3 ⊢
    have hp2 : H3 p2 = some (.lst []) := by rw [← hH3]; exact smNew1 np3 _ _ _ upd_same
    have hp1 : H3 p1 = some (.lst [.str st.word]) := by rw [← hH3]; exact smNew1 np3 _ _ _ (smNew1 np2 _ _ _ upd_same)
    have hp3 : SqT K H3 p3 (us ++ ws) := by rw [← hH3]; exact SqT.of upd_same
    have np2' : H2 p2 = none := sm_none t1 np2
    have ne12 : p1 ≠ p2 := ne_of_none (H := upd H2 p1 (.lst [.str st.word])) upd_same np2
    -- what the inner loop leaves as it is
    have eD : Same H2 (del (del H3 p1) p2) := del_sub (del_sub t3 np1) np2'
    have kD : Same (del (del H3 p1) p2) H3 := del_keep.trans del_keep
    have nD1 : del (del H3 p1) p2 p1 = none := del_none del_same
    have nD2 : del (del H3 p1) p2 p2 = none := del_same
    have hp3D : SqT K (del (del H3 p1) p2) p3 (us ++ ws) := by
      have e1 : p3 ≠ p1 := (ne_of_none (smNew1 np2 (.lst []) p1 (.lst [.str st.word]) upd_same) np3).symm
      have e2 : p3 ≠ p2 := (ne_of_none (H := upd (upd H2 p1 (.lst [.str st.word])) p2 (.lst [])) upd_same np3).symm
      refine SqT.of ?_
      rw [del_ne e2, del_ne e1, ← hH3, upd_same]
    generalize del (del H3 p1) p2 = HD at eD kD nD1 nD2 hp3D
    refine seqA_of (.inr hp3D) kD fun J2 wk2 => ?_
    refine for_it wk2 (fun j σ H' => Same HD H' ∧ H' p1 = some (.lst ((st.word :: (st.flats.take j).map tokD).map V.str)) ∧ H' p2 = some (.lst (ws.take (j - st.flats.length))) ∧ ∃ v6, σ = [some (.ref a), some (.int ind), some (.ref f), some (.ref sa), some (.ref p1), some (.ref p2), v6, v7, v8])
      ⟨kD, hp1, by rw [Nat.zero_sub, List.take_zero]; exact hp2, _, rfl⟩ (fun i σ H' _ h => h.1) ?_ ?_
    · rintro j y σ2 H4 H5 hj ⟨eH, g1, g2, v6, rfl⟩ ⟨rfl, hy⟩
      obtain ⟨d, hd3, hd4⟩ := DpAll.getV hsx hy
      have eA : Same H H5 := s1.trans (eD.trans eH)
      have hd5 := Dp.keep eA hd4
      refine ⟨_, rfl, (by show 2 ≤ sizeLine; decide), fun p4 np4 => ?_⟩
      have s3 := smNew1 np4 (.tup [.ty "list", .ty "tuple"])
      have eH4 := smNew eH np4 (.tup [.ty "list", .ty "tuple"])
      have g1' := s3 _ _ g1
      have g2' := s3 _ _ g2
      rcases item_at st _ hd3 with ⟨hf', hflat⟩ | ⟨hf', bd, hbm, hba, rfl⟩
      · obtain ⟨ty, ht, hk2⟩ := ty_flat (Dp.keep s3 hd5) hflat
        refine ⟨_, p4, _, ty, _, false, rfl, upd_same, .cons (.ty _) (.cons (.ty _) .nil), ht, hk2, _, rfl, ifF rfl ?_⟩
        have hd6 : st.flats[j]? = some d := by rw [List.getElem?_append_left hf'] at hd3; exact hd3
        have sml : ((st.word :: (st.flats.take j).map tokD).map V.str).length < sizeLine := small1000 (by rw [List.length_map, List.length_cons, List.length_map, List.length_take]; omega)
        have fin : ∀ z, tokD d = z → ∀ H7, H7 = upd (upd H5 p4 (.tup [.ty "list", .ty "tuple"])) p1 (.lst ((st.word :: (st.flats.take j).map tokD).map V.str ++ [.str z])) →
            Same HD H7 ∧ H7 p1 = some (.lst ((st.word :: (st.flats.take (j + 1)).map tokD).map V.str)) ∧ H7 p2 = some (.lst (ws.take (j + 1 - st.flats.length))) := by
          rintro z rfl H7 rfl
          refine ⟨smOut eH4 nD1 _, ?_, ?_⟩
          · rw [upd_same, List.take_add_one, hd6]
            simp
          · rw [upd_ne ne12.symm, g2', show j + 1 - st.flats.length = j - st.flats.length by omega]
        refine ⟨_, rfl, .inl ⟨rfl, _, SqL.of g1'⟩, _, rfl, ?_⟩
        rcases flat_ok hwl (List.mem_of_getElem? hd6) with ⟨z, rfl, hz⟩ | ⟨m, rfl, hm2⟩
        · obtain rfl := Dp.str_inv hd4
          obtain ⟨f1, f2, f3⟩ := fin z rfl _ rfl
          exact .inl ⟨z, rfl, p1, _, _, rfl, rfl, g1', sml, f1, f2, f3, _, rfl⟩
        · obtain rfl := Dp.int_inv hd4
          obtain ⟨f1, f2, f3⟩ := fin (numT m) rfl _ rfl
          exact .inr ⟨m, rfl, log_small hm2, p1, _, _, rfl, rfl, g1', sml, f1, f2, f3, _, rfl⟩
      · obtain ⟨ba, bxs, rfl, hb1, hb2⟩ := seqD_inv hd5
        obtain ⟨ty, ht, hk2⟩ := ty_seq hb1 s3
        refine ⟨_, p4, _, ty, _, true, rfl, upd_same, .cons (.ty _) (.cons (.ty _) .nil), ht, hk2, _, rfl, ifT rfl ?_⟩
        refine ⟨_, rfl, .inl ⟨rfl, _, SqL.of g2'⟩, _, rfl, p2, _, _, rfl, rfl, g2', small1000 (by rw [List.length_take]; omega), ?_⟩
        have hw1 : ws[j - st.flats.length]? = some (.ref ba) := by
          rw [List.getElem?_append_right (by omega), lus] at hy
          exact hy
        refine ⟨smOut eH4 nD2 _, ?_, ?_, _, rfl⟩
        · rw [upd_ne ne12, g1', List.take_of_length_le (by omega), List.take_of_length_le (by omega)]
        · rw [upd_same, show j + 1 - st.flats.length = (j - st.flats.length) + 1 by omega, List.take_add_one, hw1]
          rfl
    · rintro σ2 H5 ⟨eH, g1, g2, v6, rfl⟩
      rw [List.take_of_length_le (by rw [List.length_append]; omega)] at g1
      rw [List.take_of_length_le (by rw [List.length_append]; omega)] at g2
      have eB := eD.trans eH
      have hf5 := eB _ _ hf
      have ts := toks_sum hwl
      have tl3 := toks_len st
      refine ⟨_, rfl, .inl ⟨rfl, _, SqL.of hf5⟩, ?_⟩
      refine ⟨⟨_, rfl⟩, _, rfl, ind, rfl, by omega, by omega, ?_⟩
      intro D nD
      refine lc_opt (walk_range (lo := 0) (n := ind)) (fun (_ : Unit) y _ => y = .str " ") (fun _ => some ()) nD (small1000 (by omega)) (fun _ _ => trivial) (fun _ _ _ _ h _ => h) (fun _ _ _ _ _ h _ => h) ?_ ?_
      · rintro j y H6 H7 N hj e ⟨rfl, rfl⟩ hk _
        exact ⟨rfl, yesI (hk _ _ () rfl (Same.refl _) rfl)⟩
      intro H6 ys e6 hD hp'
      rw [paired_const hp', range_some, List.length_map, List.length_range, show List.replicate ind (V.str " ") = (List.replicate ind (" " : Str)).map V.str by rw [List.map_replicate]] at hD
      have g6 := e6 _ _ g1
      have g7 := e6 _ _ g2
      have hf6 := e6 _ _ hf5
      refine ⟨_, D, _, rfl, rfl, .inl (SqL.of hD), (by rw [blanks_sum, List.length_replicate]; show ind + ind * ("" : Str).length ≤ _; rw [show ("" : Str).length = 0 by decide +kernel]; omega), ?_⟩
      rw [join_blanks]
      refine ⟨⟨_, rfl⟩, _, rfl, _, p1, st.toks, rfl, rfl, .inl (SqL.of g6), (by rw [blank_one]; omega), ?_⟩
      have ll := line_len (i := ind) hwl
      refine ⟨_, _, rfl, rfl, ?_, ?_⟩
      · rw [← Str.length_append]
        exact Nat.le_of_lt (small1000 (by show (line ind st.toks).length ≤ 1000; omega))
      have lc := lnB_cnt ind l
      have lt : (lnB ind (l.take i)).length ≤ (lnB ind l).length := by
        rw [← List.take_append_drop i l, lnB_app, List.length_append]
        simp only [List.take_append_drop]
        omega
      refine ⟨f, _, _, rfl, rfl, hf6, small1000 (by rw [List.length_map]; omega), ?_⟩
      have fne2 : f ≠ p2 := ne_of_none (t1 _ _ hf) np2
      have k7 : Same H (upd H6 f (.lst ((lnB ind (l.take i)).map V.str ++ [.str (spc ind ++ Txt.join " " st.toks)]))) := smOut (s1.trans (eB.trans e6)) nf _
      have hin : upd H6 f (.lst ((lnB ind (l.take i)).map V.str ++ [.str (spc ind ++ Txt.join " " st.toks)])) p2 = some (.lst ws) := by rw [upd_ne fne2.symm]; exact g7
      have hf7 : upd H6 f (.lst ((lnB ind (l.take i)).map V.str ++ [.str (spc ind ++ Txt.join " " st.toks)])) f = some (.lst ((lnB ind (l.take i) ++ [line ind st.toks] ++ lnR ind (st.bodies.take 0)).map V.str)) := by
        rw [upd_same, List.take_zero, lnR, List.append_nil, List.map_append]
        rfl
      generalize upd H6 f (.lst ((lnB ind (l.take i)).map V.str ++ [.str (spc ind ++ Txt.join " " st.toks)])) = H7 at k7 hin hf7 ⊢
      -- the bodies' lines
      refine ⟨_, rfl, p2, _, rfl, .inl (SqL.of hin), ?_⟩
      refine ⟨_, rfl, by omega, by omega, ?_⟩
      refine for_it (walk_range (lo := 0) (n := ws.length)) (fun j σ H' => Same H H' ∧ H' p2 = some (.lst ws) ∧ ∃ f', H f' = none ∧ H7 p2 ≠ none ∧ f' ≠ p2 ∧ H' f' = some (.lst ((lnB ind (l.take i) ++ [line ind st.toks] ++ lnR ind (st.bodies.take j)).map V.str)) ∧ ∃ v6 v7 v8, σ = [some (.ref a), some (.int ind), some (.ref f'), some (.ref sa), some (.ref p1), some (.ref p2), v6, v7, v8])
        ⟨k7, hin, f, nf, by rw [hin]; simp, fne2, hf7, _, _, _, rfl⟩ (fun _ _ _ _ _ => trivial) ?_ ?_
      · rintro j x σ3 H8 H9 hj ⟨k8, hin8, f', nf', hne7, ne8, hf8, v6', v7', v8', rfl⟩ ⟨rfl, rfl⟩
        obtain ⟨bd, hbd⟩ : ∃ bd, st.bodies[j]? = some bd := ⟨st.bodies[j]'(by omega), by simp⟩
        have mb : bd ∈ st.bodies := List.mem_of_getElem? hbd
        obtain ⟨y, hy, dy⟩ := DpAll.get hbs (i := j) (d := seqD fl (encB fl bd)) (by rw [List.getElem?_map, hbd]; rfl)
        have cm := cB_mem hm
        have dm := dB_mem hm
        have d1 := dS_mem mb
        have c1 := cS_mem mb
        have wb := wB_of (wB_all hw st hm) bd mb
        have l1 := lnB_cnt (ind + 2) bd
        have eN := lnR_next (i := ind) hbd
        have szR : (lnR ind (st.bodies.take j)).length ≤ 2 * cS st := by
          have h1 := lnS_cnt ind st
          rw [lnS_eq, List.length_cons] at h1
          have : (lnR ind (st.bodies.take j)).length ≤ (lnR ind st.bodies).length := by
            rcases bodies_cases st with h0 | ⟨b1, h0⟩ | ⟨b1, b2, h0⟩ <;> rw [h0] at hbd ⊢
            · simp at hbd
            · match j, hbd with
              | 0, _ => simp [lnR]
            · match j, hbd with
              | 0, _ => simp [lnR]
              | 1, _ => simp [lnR]
          omega
        refine ⟨_, rfl, rfl, _, rfl, ?_⟩
        by_cases j1 : j = 1
        · refine ifT (by rw [j1]; rfl) ?_
          rw [if_pos j1] at eN
          refine ⟨_, rfl, .inl ⟨rfl, _, SqL.of hf8⟩, ?_⟩
          refine ⟨⟨_, rfl⟩, _, rfl, ind, rfl, by omega, by omega, ?_⟩
          intro D nD
          refine lc_opt (walk_range (lo := 0) (n := ind)) (fun (_ : Unit) y _ => y = .str " ") (fun _ => some ()) nD (small1000 (by omega)) (fun _ _ => trivial) (fun _ _ _ _ h _ => h) (fun _ _ _ _ _ h _ => h) ?_ ?_
          · rintro j y H6 H7 N hj e ⟨rfl, rfl⟩ hk _
            exact ⟨rfl, yesI (hk _ _ () rfl (Same.refl _) rfl)⟩
          intro H10 ys e6 hD hp'
          rw [paired_const hp', range_some, List.length_map, List.length_range, show List.replicate ind (V.str " ") = (List.replicate ind (" " : Str)).map V.str by rw [List.map_replicate]] at hD
          have hin10 := e6 _ _ hin8
          have hf10 := e6 _ _ hf8
          refine ⟨_, D, _, rfl, rfl, .inl (SqL.of hD), (by rw [blanks_sum, List.length_replicate]; show ind + ind * ("" : Str).length ≤ _; rw [show ("" : Str).length = 0 by decide +kernel]; omega), ?_⟩
          rw [join_blanks]
          have el := else_len ind
          refine ⟨_, _, rfl, rfl, ?_, ?_⟩
          · rw [← Str.length_append]
            exact Nat.le_of_lt (small1000 (by show (elseL ind).length ≤ 1000; omega))
          refine ⟨f', _, _, rfl, rfl, hf10, small1000 (by rw [List.length_map, List.length_append, List.length_append]; show _ + 1 + _ ≤ 1000; omega), ?_⟩
          have k11 := smOut (k8.trans e6) nf' (.lst ((lnB ind (l.take i) ++ [line ind st.toks] ++ lnR ind (st.bodies.take j)).map V.str ++ [.str (spc ind ++ "else")]))
          have hf11 : upd H10 f' (.lst ((lnB ind (l.take i) ++ [line ind st.toks] ++ lnR ind (st.bodies.take j)).map V.str ++ [.str (spc ind ++ "else")])) f' = some (.lst ((lnB ind (l.take i) ++ [line ind st.toks] ++ lnR ind (st.bodies.take j) ++ [elseL ind]).map V.str)) := by
            rw [upd_same, List.map_append (l₂ := [elseL ind])]
            rfl
          have hin11 : upd H10 f' (.lst ((lnB ind (l.take i) ++ [line ind st.toks] ++ lnR ind (st.bodies.take j)).map V.str ++ [.str (spc ind ++ "else")])) p2 = some (.lst ws) := by rw [upd_ne ne8.symm]; exact hin10
          generalize upd H10 f' (.lst ((lnB ind (l.take i) ++ [line ind st.toks] ++ lnR ind (st.bodies.take j)).map V.str ++ [.str (spc ind ++ "else")])) = H11 at k11 hf11 hin11 ⊢
          refine ⟨_, rfl, _, rfl, _, rfl, _, _, _, _, rfl, rfl, SqL.of hin11, atI_nat0 hy, _, rfl, _, _, rfl, rfl, fl, bd, ind + 2, Dp.keep k11 dy, rfl, wb, by omega, by omega, by omega, fun p12 H12 s12 np12 hp12 => ?_⟩
          have hf12 := s12 _ _ hf11
          refine ⟨f', p12, _, _, rfl, rfl, hf12, hp12, Nat.le_of_lt (small1000 (by rw [List.length_map, List.length_map, List.length_append, List.length_append, List.length_append]; show _ + 1 + _ + 1 + _ ≤ 1000; omega)), fun p13 np13 => ?_⟩
          rw [← List.map_append]
          refine ⟨smNew (k11.trans s12) np13 _, smNew1 np13 _ _ _ (s12 _ _ hin11), p13, sm_none (k11.trans s12) np13, hne7, (ne_of_none (s12 _ _ hin11) np13).symm, ?_, _, _, _, rfl⟩
          rw [upd_same, eN]
          simp only [List.append_assoc]
        · refine ifF (decide_eq_false fun z => j1 (by injection z with z1; omega)) ?_
          rw [if_neg j1, List.append_nil] at eN
          refine ⟨_, rfl, _, rfl, _, rfl, _, _, _, _, rfl, rfl, SqL.of hin8, atI_nat0 hy, _, rfl, _, _, rfl, rfl, fl, bd, ind + 2, Dp.keep k8 dy, rfl, wb, by omega, by omega, by omega, fun p12 H12 s12 np12 hp12 => ?_⟩
          have hf12 := s12 _ _ hf8
          refine ⟨f', p12, _, _, rfl, rfl, hf12, hp12, Nat.le_of_lt (small1000 (by rw [List.length_map, List.length_map, List.length_append, List.length_append]; show _ + 1 + _ + _ ≤ 1000; omega)), fun p13 np13 => ?_⟩
          rw [← List.map_append]
          refine ⟨smNew (k8.trans s12) np13 _, smNew1 np13 _ _ _ (s12 _ _ hin8), p13, sm_none (k8.trans s12) np13, hne7, (ne_of_none (s12 _ _ hin8) np13).symm, ?_, _, _, _, rfl⟩
          rw [upd_same, eN]
          simp only [List.append_assoc]
      · rintro σ3 H8 ⟨k8, hin8, f', nf', _, _, hf8, v6, v7, v8, rfl⟩
        refine ⟨k8, f', nf', ?_, _, _, _, _, _, _, rfl⟩
        rw [lws, List.take_length] at hf8
        rw [hf8, lnB_take hst, lnS_eq, List.append_assoc]
        rfl
  · rintro σ H1 ⟨s1, f, nf, hf, v3, v4, v5, v6, v7, v8, rfl⟩
    rw [lx, List.take_length] at hf
    exact ⟨_, rfl, q f H1 s1 nf hf⟩
theorem c_law_lines (T : Top w K mg) : ∀ n, Cal P w K mg base CX0 (n + 1) "_law_lines" (spLines K n)
  | 0 => cal_never (f_law_lines T) (g_law_lines T) (ps := ["_law_body_here", "_law_indent"]) (fun _ _ _ _ _ _ us hl => match us, hl with | [_, _], _ => rfl) fun vs H Q E h => by
      match vs, h with
      | [b, i], h =>
      obtain ⟨fl, l, ind, _, _, _, hn, _⟩ := h
      have := dB_one l
      omega
  | n + 1 => ok_law_lines T (c_law_lines T n)
end
end RM

set_option Elab.async false
set_option linter.all false
set_option maxRecDepth 100000
set_option maxHeartbeats 4000000
namespace RM
open PySem PySem.Spec PyProof.Rows L2
theorem DpAll.take {K : PySem.W.Frag} {H : Hp} : ∀ {xs : List V} {ds : List PyData} (m : Nat), DpAll K H xs ds → DpAll K H (xs.take m) (ds.take m)
  | _, _, 0, _ => by rw [List.take_zero, List.take_zero]; exact .nil
  | [], _, m + 1, h => by cases h; exact .nil
  | x :: xs, _, m + 1, h => by
    cases h with
    | cons h t =>
      rw [List.take_succ_cons, List.take_succ_cons]
      exact .cons h (DpAll.take m t)
theorem encB_take (fl : Bool) (l : List Stm) (m : Nat) : encB fl (l.take m) = (encB fl l).take m := by rw [encB_map, encB_map, List.map_take]
theorem dB_le : ∀ {l : List Stm} {m : Nat}, dB (l.take m) ≤ dB l
  | l, 0 => by rw [List.take_zero]; exact dB_one l
  | [], m + 1 => by rw [List.take_nil]; exact Nat.le_refl _
  | s :: r, m + 1 => by
    rw [List.take_succ_cons, dB, dB]
    have := dB_le (l := r) (m := m)
    omega
theorem wB_take {l : List Stm} (h : wB l = true) (m : Nat) : wB (l.take m) = true := by
  rw [← List.take_append_drop m l, wB_app, Bool.and_eq_true] at h
  exact h.1
theorem kB_take {ks : List Str} {l : List Stm} (h : kB ks l = true) (m : Nat) : kB ks (l.take m) = true := by
  rw [← List.take_append_drop m l, kB_app, Bool.and_eq_true] at h
  exact h.1
section
variable {P : Program} {w : World} {K : PySem.W.Frag} {mg : Str → Option Value} {base : Heap}
/-! ### _law_short -/
def spShort (K : PySem.W.Frag) : Sp := fun vs H Q _ => match vs with
  | [b] => ∃ (a : Addr) (xs : List V) (l : List Stm), b = .ref a ∧ SqL K H a xs ∧ DpAll K H xs (encB true l) ∧ wB l = true ∧ dB l ≤ 4 ∧
    ∀ p j H', Same H H' → H p = none → H' p = some (.lst (xs.take j)) → cB (l.take j) ≤ 40 → pB (l.take j) ≤ 6 → Q (.ref p) H'
  | _ => False
theorem sc_law_short : FnScope ["_law_body_here", "_law_left"] ["_law_body_here"] (defScope s_law_short) := ⟨rfl, rfl, rfl, by decide +kernel, rfl, by decide +kernel, by decide +kernel⟩
theorem c_law_short (T : Top w K mg) : Cal P w K mg base CX0 6 "_law_short" (spShort K) := by
  refine cal_0 (f_law_short T) (g_law_short T) sc_law_short (fun _ _ _ _ _ _ us hl => match us, hl with | [_], _ => rfl) (fun vs H Q E h => match vs, h with | [_], _ => rfl) (fun cdv A outer s H vs Q E hr h => ?_)
  match vs, h with
  | [b], h =>
  obtain ⟨a, xs, l, rfl, ha, hx, hw, hd, q⟩ := h
  have lx : xs.length = l.length := by rw [DpAll.len hx, encB_map, List.length_map]
  refine ⟨_, (pss_cons (ps_set (i := 1) sc_law_short.nd rfl (Or.inl rfl) (pct (z_list T) call_list_of boot_list (pa_cons (pv 0) pa_nil)))
    (pss_cons (ps_while PassesOwn.never (PW.pt (pw_or (pt_cmpR op_gt (pc (c_law_size T 4) hr (pa_cons (pv 1) pa_nil)) pe_int (nomark _)) (pw_or1 (pt_cmpR op_gt (pc (c_law_prints T 4) hr (pa_cons (pv 1) pa_nil)) pe_int (nomark _)))))
      (pss_one (ps_expr (pe_bm0 PySem.F.plainAttrs_list PySem.F.slot_list_pop PySem.F.type_list_pop mt_pop (pv 1)))))
    (pss_one (ps_ret (pv 1))))), ?_⟩
  refine ⟨_, rfl, a, xs, rfl, .inl ha, fun p hp => ?_⟩
  refine ⟨fun m σ H' => m ≤ l.length ∧ Same H H' ∧ H' p = some (.lst (xs.take m)) ∧ σ = [some (.ref a), some (.ref p)], ⟨l.length, Nat.le_refl _, smNew1 hp _, by rw [← lx, List.take_length]; exact upd_same, rfl⟩, ?_⟩
  rintro m σ H1 ⟨hm, s1, hp1, rfl⟩
  have dp : ∀ H2, Same H1 H2 → Dp K H2 (.ref p) (seqD true (encB true (l.take m))) := fun H2 s2 => by
    rw [encB_take]
    exact .lst (SqL.of (s2 _ _ hp1)) (DpAll.keep (s1.trans s2) (DpAll.take m hx))
  have pop : ∀ H2, Same H1 H2 → 1 ≤ m → ∃ y, (xs.take m)[(xs.take m).length - 1]? = some y ∧ (upd H2 p (.lst (xs.take m).dropLast)) p = some (.lst (xs.take (m - 1))) := fun H2 s2 h1 => by
    have hl : (xs.take m).length = m := by rw [List.length_take]; omega
    refine ⟨(xs.take m)[(xs.take m).length - 1]'(by omega), List.getElem?_eq_getElem _, ?_⟩
    · rw [upd_same, List.dropLast_eq_take, hl, List.take_take, Nat.min_eq_left (by omega)]
  refine ⟨_, rfl, true, l.take m, dp _ (Same.refl _), Nat.le_trans dB_le hd, fun H2 s2 => ?_⟩
  refine ⟨_, _, rfl, rfl, _, rfl, ifB (fun c => ifT rfl ?_) (fun c => ?_)⟩
  · have c' : (40 : Int) < ((cB (l.take m) : Nat) : Int) := of_decide_eq_true c
    have h1 : 1 ≤ m := by
      cases m with
      | zero => rw [List.take_zero] at c'; simp [cB] at c'
      | succ m => omega
    obtain ⟨y, hy, hu⟩ := pop H2 s2 h1
    refine ⟨fun σ' H' => m - 1 ≤ l.length ∧ Same H H' ∧ H' p = some (.lst (xs.take (m - 1))) ∧ σ' = [some (.ref a), some (.ref p)], fun σ' H' h => ⟨m - 1, by omega, h⟩, ?_⟩
    refine ⟨_, rfl, .inl ⟨rfl, _, SqL.of (s2 _ _ hp1)⟩, p, _, y, rfl, rfl, s2 _ _ hp1, hy, ?_⟩
    exact ⟨by omega, smOut (s1.trans s2) hp _, hu, rfl⟩
  refine ⟨_, rfl, true, l.take m, dp _ s2, wB_take hw m, Nat.le_trans dB_le hd, fun H3 s3 => ?_⟩
  have s23 := s2.trans s3
  refine ⟨_, _, rfl, rfl, _, rfl, ifB (fun c2 => ?_) (fun c2 => ?_)⟩
  · have c' : (6 : Int) < ((pB (l.take m) : Nat) : Int) := of_decide_eq_true c2
    have h1 : 1 ≤ m := by
      cases m with
      | zero => rw [List.take_zero] at c'; simp [pB] at c'
      | succ m => omega
    obtain ⟨y, hy, hu⟩ := pop H3 s23 h1
    refine ⟨fun σ' H' => m - 1 ≤ l.length ∧ Same H H' ∧ H' p = some (.lst (xs.take (m - 1))) ∧ σ' = [some (.ref a), some (.ref p)], fun σ' H' h => ⟨m - 1, by omega, h⟩, ?_⟩
    refine ⟨_, rfl, .inl ⟨rfl, _, SqL.of (s23 _ _ hp1)⟩, p, _, y, rfl, rfl, s23 _ _ hp1, hy, ?_⟩
    exact ⟨by omega, smOut (s1.trans s23) hp _, hu, rfl⟩
  · refine ⟨_, rfl, ?_⟩
    have h1 : ¬ (40 : Int) < ((cB (l.take m) : Nat) : Int) := of_decide_eq_false c
    have h2 : ¬ (6 : Int) < ((pB (l.take m) : Nat) : Int) := of_decide_eq_false c2
    exact q p m H3 (s1.trans s23) hp (s23 _ _ hp1) (by omega) (by omega)
end
end RM

set_option Elab.async false
set_option linter.all false
set_option maxRecDepth 100000
set_option maxHeartbeats 8000000
set_option pp.maxSteps 600
set_option pp.deepTerms false
namespace RM
open PySem PySem.Spec PyProof.Rows L2
theorem keys2 : ∀ k ∈ (["a", "url"] : List Str), isWord k = true := by decide +kernel
theorem DrawS.fresh {K : PySem.W.Frag} {H H' : Hp} {d sc p : Addr} (h : DrawAt K H d sc) (e : Same H H') (hp : H p = none) : DrawS K H' d sc [p] := by
  refine ⟨h.1.keep e, h.2.keep fun c u hc => ?_, fun q hq => ?_⟩
  · by_cases e2 : c = d
    · rw [e2, del_same] at hc; cases hc
    · rw [del_ne e2] at hc
      unfold dlS
      have cp : c ≠ p := ne_of_none hc hp
      rw [if_neg (by simp [cp]), del_ne e2]
      exact e _ _ hc
  · rw [List.mem_singleton.mp hq]
    exact fun z => h.1.ne (by rw [← z]; exact hp)
theorem fin_two_ways (n : Nat) (L : List Str) : (∃ l, BR 0 L = (some l, []) ∧ fin n [(0, "")] L = 0) ∨ (∃ o e, BR 0 L = (o, e) ∧ (o = none ∨ e ≠ []) ∧ fin n [(0, "")] L = atL n e) := by
  cases h : BR 0 L with
  | mk o e =>
    cases o with
    | none => exact .inr ⟨none, e, rfl, .inl rfl, fin_none h⟩
    | some l =>
      have f := fin_some (n := n) (q := "") (st := []) h
      rw [if_pos rfl] at f
      by_cases he : e = []
      · subst he
        exact .inl ⟨l, rfl, by rw [f, if_pos rfl]⟩
      · exact .inr ⟨some l, e, rfl, .inr he, by rw [f, if_neg he]⟩
theorem joinL_one : Txt.split ("" : Str) "\n" = [("" : Str)] := by decide +kernel
theorem join_none : Txt.join "\n" [] = ("" : Str) := by
  refine str_ext ?_
  show TL.tl (Txt.join "\n" []) = _
  rw [TL.join_eq, TL.tl_join]
  decide +kernel
/-- what the reading told -/
def Told (K : PySem.W.Frag) (H : Hp) (Lr : List Str) (t : Int) (v : V) : Prop :=
  (∃ l, BR 0 Lr = (some l, []) ∧ (t = -1 ∨ (t = 0 ∧ ∃ a, v = .ref a ∧ PrgAt K H a l ∧ cB l ≤ 60 ∧ dB l ≤ 4))) ∨ ∃ o e, BR 0 Lr = (o, e) ∧ (o = none ∨ e ≠ []) ∧ t = (atL Lr.length e : Nat)
section
variable {P : Program} {w : World} {K : PySem.W.Frag} {mg : Str → Option Value} {base : Heap}
def spLaw (K : PySem.W.Frag) : Sp := fun vs H Q _ => match vs with
  | [x] => ∃ (a : Addr) (xs : List Int), x = .ref a ∧ SqL K H a (xs.map V.int) ∧ ∀ H', Q (.bl true) H'
  | _ => False
theorem sc_law : FnScope ["_law_script", "_law_draws", "_law_lines_here", "_law_k", "_law_text", "_law_due", "_law_told", "_law_program", "e"] ["_law_script"] (defScope s_law) := ⟨rfl, rfl, rfl, by decide +kernel, rfl, by decide +kernel, by decide +kernel⟩
theorem b_law (T : Top w K mg) : Body0 P w K mg base ["_law_script", "_law_draws", "_law_lines_here", "_law_k", "_law_text", "_law_due", "_law_told", "_law_program", "e"] "law" s_law (He.ga K "law") 115 (spLaw K) := by
  intro cdv A outer s H0 vs Q E hr h
  match vs, h with
  | [x], h =>
  obtain ⟨a0, xs, rfl, ha, q⟩ := h
  -- slots: ["_law_script", "_law_draws", "_law_lines_here", "_law_k", "_law_text", "_law_due", "_law_told", "_law_program", "e"]
  refine ⟨_, (pss_cons (ps_set (i := 1) sc_law.nd rfl (Or.inl rfl) (pc (c_law_begin T) hr (pa_cons (pv 0) pa_nil)))
    (pss_cons (ps_set (i := 2) sc_law.nd rfl (Or.inl rfl) (pc (c_law_lines T 4) hr (pa_cons (pe_op op_cat (pe_lst (pa_cons (pe_tup (pa_cons pe_str pa_nil)) pa_nil)) (pc (c_law_short T) hr (pa_cons (pc (c_law_body T 3) hr (pa_cons (pv 1) (pa_cons (pe_lst (pa_cons pe_str (pa_cons pe_str pa_nil))) (pa_cons pe_int (pa_cons pe_int pa_nil))))) pa_nil))) (pa_cons pe_int pa_nil))))
    (pss_cons (ps_for PassesOwn.never rfl (pi_range1 rfl (z_range T) (pa_cons (pc (c_law_draw T) hr (pa_cons (pv 1) (pa_cons pe_int pa_nil))) pa_nil)) (pg_name (i := 3) sc_law.nd rfl (Or.inl rfl))
      (pss_one (ps_expr (pc (c_law_spoil T) hr (pa_cons (pv 1) (pa_cons (pv 2) pa_nil))))))
    (pss_cons (ps_set (i := 4) sc_law.nd rfl (Or.inl rfl) (pe_join pe_str (pv 2)))
    (pss_cons (ps_set (i := 5) sc_law.nd rfl (Or.inl rfl) (pc (c_law_wrong T) hr (pa_cons (pv 2) pa_nil)))
    (pss_cons (ps_mid (ps_if (pt_cmpR op_eq (pv 4) pe_str (nomark _))
      (pss_one (ps_set (i := 5) sc_law.nd rfl (Or.inl rfl) pe_int))
      pss_nil))
    (pss_cons (ps_set (i := 6) sc_law.nd rfl (Or.inl rfl) pe_int)
    (pss_cons (ps_set (i := 7) sc_law.nd rfl (Or.inl rfl) pe_non)
    (pss_cons (ps_mid (ps_tryG (fun W pn xe tk => (pss_one (ps_set (i := 7) sc_law.nd rfl (Or.inl rfl) (pcX tk (c_read T) hr (pa_cons (pv 4) pa_nil)))))
      (hds_as (i := 8) sc_law.nd rfl rfl ⟨rfl, by decide, Or.inl (g_BadText T)⟩
      (fun a oe cls d pn hz hf => (pss_one (ps_set (i := 6) sc_law.nd rfl (Or.inl rfl) (pe_xf (xfB_ok (xf_BadText T)) (na_BadText_line T) hz hf (pv 8)))))
      (hds_cl ⟨rfl, by decide, Or.inl (g_MomentError T)⟩
      (fun a oe cls d pn hz hf => (pss_one (ps_set (i := 6) sc_law.nd rfl (Or.inl rfl) (pe_un un_neg pe_int))))
      (hds_nil takes0)))))
    (pss_cons (ps_if (pt_cmpR op_ne (pv 5) pe_int (nomark _))
      (pss_one (ps_ret (pe_cmpR op_eq (pv 6) (pv 5) (nomark _))))
      pss_nil)
    (pss_one (ps_ret (pe_or (pe_cmpR op_eq (pv 6) (pe_un un_neg pe_int) (nomark _)) (pe_one (pe_and (pe_cmpR op_eq (pv 6) pe_int (nomark _)) (pe_and (pcb (z_isinstance T) call_isi boot_isinstance (pa_cons (pv 7) (pa_cons (pglR (g_Program T)) pa_nil))) (pe_one (pe_cmpR op_eq (pc (c_write T) hr (pa_cons (pv 7) pa_nil)) (pv 4) (nomark _))))))))))))))))))), ?_⟩
  refine ⟨_, rfl, a0, xs, rfl, ha, fun d sc H1 s1 nd da => ?_⟩
  refine ⟨(by show 1 ≤ sizeLine; decide), fun t0 nt0 => ⟨(by show 1 ≤ sizeLine; decide), fun p0 np0 => ?_⟩⟩
  have s2 := smNew (smNew1 nt0 (.tup [.str "wait"])) np0 (.lst [.ref t0])
  refine ⟨_, rfl, (by show 2 ≤ sizeLine; decide), fun nm hnm => ?_⟩
  have s3 := smNew s2 hnm (.lst [.str "a", .str "url"])
  obtain ⟨H3, eH3⟩ := end_of s3
  have u0 : H3 t0 = some (.tup [.str "wait"]) := by
    rw [eH3]
    refine (smNew1 hnm _) _ _ ((smNew1 np0 _) _ _ upd_same)
  have u1 : H3 p0 = some (.lst [.ref t0]) := by
    rw [eH3]
    exact (smNew1 hnm _) _ _ upd_same
  have hnm3 : H3 nm = some (.lst ((["a", "url"] : List Str).map V.str)) := by rw [eH3]; exact upd_same
  rw [← eH3] at s3 ⊢
  have hnd : nm ≠ d := fun e => (da.keep s2).1.ne (by rw [← e]; exact hnm)
  have hp0d : p0 ≠ d := fun z => (da.keep (smNew1 nt0 (.tup [.str "wait"]))).1.ne (by rw [← z]; exact np0)
  have ht0d : t0 ≠ d := fun z => da.1.ne (by rw [← z]; exact nt0)
  clear eH3 hnm np0 nt0 s2
  have c3 : Ctx K H3 d sc nm ["a", "url"] := ⟨da.keep s3, SqL.of (by rw [del_ne hnd]; exact hnm3), by decide, by decide, keys2⟩
  refine ⟨d, sc, nm, _, 2, 5, rfl, rfl, rfl, rfl, by decide, by decide, by decide, c3, fun r l ys H4 wl kl vl dl cl b4 d4 nr hr4 hys => ?_⟩
  have sr : Same (del (nw H3 H4) r) H4 := (del_sm _ _).trans (nw_sm _ _)
  refine ⟨r, ys, l, rfl, SqL.of hr4, DpAll.keep sr hys, wl, by omega, fun p j H5 s5 np hp5 cj pj => ?_⟩
  have u04 := b4.get ht0d u0
  have u14 := b4.get hp0d u1
  refine ⟨p0, p, [.ref t0], ys.take j, rfl, rfl, s5 _ _ u14, hp5, ?_, fun pc npc => ?_⟩
  · have l1 : ys.length = l.length := by rw [DpAll.len (DpAll.keep sr hys), encB_map, List.length_map]
    have l2 := cB_len (l.take j)
    rw [List.length_take] at l2 ⊢
    exact Nat.le_of_lt (small1000 (by show 1 + _ ≤ 1000; omega))
  have s6 := smNew1 npc (.lst ([.ref t0] ++ ys.take j))
  obtain ⟨L, eL⟩ : ∃ L, L = l.take j := ⟨_, rfl⟩
  have wL : wB L = true := by rw [eL]; exact wB_take wl j
  have dL : dB L ≤ 3 := by
    rw [eL]
    have := dB_le (l := l) (m := j)
    omega
  have dpL : DpAll K (upd H5 pc (.lst ([.ref t0] ++ ys.take j))) (ys.take j) (encB true L) := by
    rw [eL, encB_take]
    exact DpAll.take j (DpAll.keep (sr.trans (s5.trans s6)) hys)
  rw [← eL] at cj
  have d6 := (d4.keep s5).keep s6
  have dW : dB (.wait :: L) ≤ 4 := by simp only [dB, dS]; omega
  have cW : cB (.wait :: L) ≤ 41 := by simp only [cB, cS]; omega
  have wW : wB (.wait :: L) = true := by simp only [wB, wS, wL, Bool.and_self]
  refine ⟨true, .wait :: L, 0, .lst (SqL.of upd_same) (.cons (.tup (SqT.of (s6 _ _ (s5 _ _ u04))) (.cons (.str _) .nil)) dpL), rfl, wW, dW, by omega, by omega, fun la H7 s7 nla hla => ?_⟩
  have lok : LOk 82 40 (lnB 0 (.wait :: L)) := by
    have c := lnB_cnt 0 (.wait :: L)
    refine ⟨?_, by omega, fun z hz => ⟨?_, ?_⟩⟩
    · rw [lnB, List.length_append]
      have := lnS_pos 0 .wait
      omega
    · have := lnB_each 0 _ wW z hz
      omega
    · exact lnB_free 0 _ wW z hz
  have ds7 : DrawS K H7 d sc [la] := DrawS.fresh d6 s7 nla
  generalize lnB 0 (.wait :: L) = LL at hla lok
  clear s7 nla d6 dW cW wW dpL wL dL cj pj eL s6 npc hp5 np s5 u04 u14 sr hys hr4 nr d4 b4 dl cl kl vl wl c3 hnm3 u0 u1 s3
  -- spoiled
  refine ⟨_, rfl, d, sc, 4, rfl, rfl, ds7.one, by decide, by decide, fun n H8 n0 n1 b8 d8 => ?_⟩
  obtain ⟨n, rfl⟩ := Int.eq_ofNat_of_zero_le n0
  have ds8 := ds7.but b8 d8
  have hla8 := b8.get (ds7.ne la (by simp)) hla
  refine ⟨_, rfl, by omega, by omega, ?_⟩
  refine for_it (walk_range (lo := 0) (n := n)) (fun i σ H' => ∃ L' v3, DrawS K H' d sc [la] ∧ H' la = some (.lst (L'.map V.str)) ∧ LOk (82 + i) (40 + 20 * i) L' ∧ σ = [some (.ref a0), some (.ref d), some (.ref la), v3, none, none, none, none, none]) ⟨LL, none, ds8, hla8, lok, rfl⟩ (fun _ _ _ _ _ => trivial) ?_ ?_
  · rintro i x σ H9 H10 hi ⟨L', v3, ds9, hla9, lok9, rfl⟩ ⟨rfl, rfl⟩
    refine ⟨_, rfl, _, rfl, d, sc, la, L', 82 + i, 40 + 20 * i, rfl, rfl, ds9, hla9, lok9, by omega, by omega, fun L2 H11 ds11 hla11 lok11 => ?_⟩
    exact ⟨L2, _, ds11, hla11, lok11.mono (by omega) (by omega), rfl⟩
  rintro σ H9 ⟨L', v3, ds9, hla9, lok9, rfl⟩
  have lokL : LOk 85 100 L' := lok9.mono (by omega) (by omega)
  clear lok9 ds8 hla8 b8 d8 ds7 hla lok
  have lc := lokL.cnt
  have lpos := lokL.pos
  -- the text
  have sm : ((L'.map (·.length)).sum + L'.length * ("\n" : Str).length) ≤ 16777216 := by
    have h1 : (L'.map (·.length)).sum ≤ L'.length * 100 := sum_le fun z hz => (lokL.each z hz).1
    rw [feed_one]
    have h3 : L'.length * 100 ≤ 85 * 100 := Nat.mul_le_mul_right _ lc
    omega
  refine ⟨⟨_, rfl⟩, _, rfl, "\n", la, _, rfl, rfl, .inl (SqL.of hla9), sm, ?_⟩
  obtain ⟨tx, etx⟩ : ∃ tx, tx = Txt.join "\n" L' := ⟨_, rfl⟩
  rw [← etx]
  refine ⟨_, rfl, la, L', rfl, SqL.of hla9, by omega, fun z hz => by have := (lokL.each z hz).1; omega, fun H11 e11 => ?_⟩
  have free : ∀ z ∈ L', 10 ∉ TL.tl z := fun z hz => (lokL.each z hz).2
  have ltx : tx.length ≤ 1000000 := by
    rw [etx, ← cl_len]
    show (TL.tl (Txt.join "\n" L')).length ≤ _
    rw [TL.join_eq, TL.tl_join]
    refine Nat.le_trans (joinL_len _ _) ?_
    rw [feed_list, List.map_map, List.length_map]
    have e : L'.map (List.length ∘ TL.tl) = L'.map (·.length) := List.map_congr_left fun z _ => cl_len z
    rw [e]
    have h1 : (L'.map (·.length)).sum ≤ L'.length * 100 := sum_le fun z hz => (lokL.each z hz).1
    have h3 : L'.length * 100 ≤ 85 * 100 := Nat.mul_le_mul_right _ lc
    show _ + L'.length * 1 ≤ _
    omega
  obtain ⟨Lr, hLr, lLr, zLr, jLr, hdue⟩ : ∃ Lr, LinesOf tx Lr ∧ Lr.length ≤ 100 ∧ (∀ y ∈ Lr, y.length ≤ 900) ∧ Txt.join "\n" Lr = tx ∧ (if tx = "" then 0 else fin L'.length [(0, "")] L') = fin Lr.length [(0, "")] Lr := by
    by_cases h : tx = ""
    · exact ⟨[], .inl ⟨h, rfl⟩, by decide, (fun y hy => by simp at hy), by rw [join_none, h], by rw [if_pos h]; exact (fin_end (n := 0) (i := 0) (q := "") (r := []) rfl).symm⟩
    · refine ⟨L', .inr ⟨h, ?_⟩, by omega, fun y hy => by have := (lokL.each y hy).1; omega, etx.symm, by rw [if_neg h]⟩
      rw [etx]
      exact TL.split_join feed_list (by decide +kernel) (fun z => by rw [z] at lpos; simp at lpos) free
  obtain ⟨due, edue⟩ : ∃ due, due = fin Lr.length [(0, "")] Lr := ⟨_, rfl⟩
  rw [← edue] at hdue
  refine ⟨fun σ' H' => H' = H11 ∧ σ' = [some (.ref a0), some (.ref d), some (.ref la), v3, some (.str tx), some (.int (due : Int)), none, none, none], ?_, ?_⟩
  · refine ⟨_, rfl, rfl, _, rfl, ?_⟩
    by_cases h : tx = ""
    · rw [if_pos h] at hdue
      refine ifT (decide_eq_true (congrArg V.str h)) ?_
      rw [← hdue]
      exact ⟨rfl, rfl⟩
    · rw [if_neg h] at hdue
      refine ifF (decide_eq_false fun e => h (V.str.inj e)) ?_
      rw [← hdue]
      exact ⟨rfl, rfl⟩
  rintro σ H' ⟨rfl, rfl⟩
  -- the try
  refine ⟨fun σ' H2 => Same H' H2 ∧ ∃ t v, Told K H2 Lr t v ∧ σ' = [some (.ref a0), some (.ref d), some (.ref la), v3, some (.str tx), some (.int (due : Int)), some (.int t), some v, none], ?_, ?_⟩
  · refine ⟨_, rfl, tx, Lr, rfl, hLr, ltx, lLr, zLr, fun l hl => ⟨fun h1 h2 a H2 e2 pr => ?_, fun H2 e2 => ?_, fun H2 e2 => ?_⟩, fun o e he hb dd H2 e2 hd => ?_⟩
    · exact ⟨e2, 0, .ref a, .inl ⟨l, hl, .inr ⟨rfl, a, rfl, pr, h1, h2⟩⟩, rfl⟩
    · refine ⟨false, xm_TooLong_BadText T, ifF rfl ⟨true, xm_TooLong_MomentError T, ifT rfl fun b hb => ?_⟩⟩
      exact ⟨1, rfl, e2, -1, .non, .inl ⟨l, hl, .inl rfl⟩, rfl⟩
    · refine ⟨false, xm_TooDeep_BadText T, ifF rfl ⟨true, xm_TooDeep_MomentError T, ifT rfl fun b hb => ?_⟩⟩
      exact ⟨1, rfl, e2, -1, .non, .inl ⟨l, hl, .inl rfl⟩, rfl⟩
    · refine ⟨true, xm_BadText_BadText T, ifT rfl fun b hb2 => ?_⟩
      refine ⟨_, rfl, rfl, rfl, dd, _, _, rfl, hd, rfl, ?_⟩
      exact ⟨e2, _, .non, .inr ⟨o, e, he, hb, rfl⟩, rfl⟩
  rintro σ H2 ⟨e2, t, v, told, rfl⟩
  refine ⟨_, rfl, rfl, _, rfl, ?_⟩
  rcases fin_two_ways Lr.length Lr with ⟨l, hl, hf⟩ | ⟨o, e, he, hb, hf⟩
  · rw [hf] at edue
    refine ifF (by rw [edue]; rfl) ?_
    rcases told with ⟨l2, hl2, ht⟩ | ⟨o, e, he, hb, _⟩
    · rcases ht with rfl | ⟨rfl, a, rfl, pr, h1, h2⟩
      · exact ⟨_, rfl, 1, rfl, rfl, _, rfl, ifT rfl (q H2)⟩
      · rw [hl] at hl2
        cases hl2
        obtain ⟨hbk, hw⟩ := BR_back hl
        obtain ⟨dx, vx, hx, hvx⟩ := id pr
        refine ⟨_, rfl, 1, rfl, rfl, _, rfl, ifF (by decide) ?_⟩
        refine ⟨_, rfl, rfl, _, rfl, ifT (by decide) ?_⟩
        refine ⟨_, rfl, _, _, _, _, true, rfl, .own _, .base (insB_ty (ins_Program T) (k_Program T) hx), kitC_ok (kit_Program_Program T), ?_⟩
        refine ⟨_, rfl, ifT rfl ?_⟩
        refine ⟨_, rfl, a, l, rfl, pr, hw, h2, h1, fun H3 e3 => ?_⟩
        refine ⟨_, rfl, rfl, ?_⟩
        have et : textOf l = tx := by
          unfold textOf
          rw [← jLr]
          conv => rhs; rw [hbk, List.append_nil]
        rw [et, decide_eq_true rfl]
        exact q H3
    · rw [hl] at he
      cases he
      rcases hb with hb | hb
      · cases hb
      · exact absurd rfl hb
  · rw [hf] at edue
    refine ifT (by
      show (!decide (V.int (due : Int) = V.int 0)) = true
      rw [decide_eq_false fun z => by injection z with z; rw [edue] at z; unfold atL at z; omega]
      rfl) ?_
    rcases told with ⟨l2, hl2, _⟩ | ⟨o2, e3, he2, hb2, rfl⟩
    · rw [he] at hl2
      cases hl2
      rcases hb with hb | hb
      · cases hb
      · exact absurd rfl hb
    · rw [he] at he2
      cases he2
      refine ⟨_, rfl, _, rfl, rfl, ?_⟩
      rw [decide_eq_true (by rw [edue])]
      exact q H2
end
end RM

set_option Elab.async false
set_option linter.all false
set_option maxRecDepth 100000
set_option maxHeartbeats 0
namespace RM
open PySem PySem.Spec PyProof.Rows L2
theorem law_ok {P : Program} {w : World} {K : PySem.W.Frag} {mg : Str → Option Value} {base : Heap} {fd : FuncData} (T : Top w K mg)
    (F : FunD K "law" "law" (defArgs s_law) (defBody s_law) (defScope s_law) [] [] (He.ga K "law") fd) : FnOk P w K mg base CX0 116 (He.ga K "law") fd ["_law_script"] (spLaw K) :=
  fn_0 F sc_law (fun vs H Q E h => match vs, h with | [_], _ => rfl) (b_law T)
end RM
open PySem PySem.W PySem.Calls PyProof.Rows
theorem PySem.Challenge.cw_readmoments_k19_texts_refused_holds : PySem.Challenge.rw_readmoments_k19_texts_refused.Holds := by
  w_on; o_law
  refine HandSHeadRun.head_any (r := OpenLaw.row PySem.Challenge.rw_readmoments_k19_texts_refused) (q := view (OpenLaw.row PySem.Challenge.rw_readmoments_k19_texts_refused).prog [53]) (H := RM.hk) (ob := RM.ob) (M := 9000) (loose := RM.names)
    (d := HandSHeadRun.topDef (OpenLaw.row PySem.Challenge.rw_readmoments_k19_texts_refused).prog 53) (kwd := []) RM.ob_eq
    (by kernel_rfl) (fun s => by kernel_rfl) RM.run (by kernel_rfl) (by kernel_rfl) (by kernel_rfl) (by rfl) (by first | assumption | decide +kernel) (by decide +kernel) ⟨rfl, rfl, rfl, rfl, rfl, by decide +kernel⟩ ?hw ?hc
  case hw => w_witness2
  case hc =>
    refine L2.walk_ofE (l := PySem.Challenge.rw_readmoments_k19_texts_refused) (n := 63) (k := 116) (x := "_law_script") (CX := L2.CX0) rfl (by decide) (by kernel_rfl) ⟨rfl, by decide, by decide⟩ ?F (fun _ _ _ _ z => z)
    intro w mg fa h Y G hmg0
    have hmg : mg ("law" : PySem.Str) = some (.ref fa) := by
      have e : (HandSHeadRun.topDef (OpenLaw.row PySem.Challenge.rw_readmoments_k19_texts_refused).prog 53).name = ("law" : PySem.Str) := by kernel_rfl
      rw [← e]
      exact hmg0
    obtain ⟨K, KX, c⟩ := Y
    have T : RM.Top w K mg := ⟨h, KX, G, c⟩
    obtain ⟨fd, F⟩ := RM.f_law T
    have e := hmg.symm.trans (RM.g_law T)
    cases e
    have b := L2.FunD.bindsA (ps := ["_law_script"]) F fun _ _ _ _ _ _ us hl => match us, hl with | [_], _ => rfl
    exact ⟨K, fd, RM.spLaw K, KX, fun s v => b s [v] rfl, fun H a ns hl _ hS => ⟨a, ns, rfl, hS, fun _ => rfl⟩, fun base _ _ => RM.law_ok T F⟩

