import PyProof.Rows.All
import Wide.All
import OpenK.AllK
import Wide.FinOn
import HandS.ForMost
import HandS.Exc
import HandS.WordsExc
import HandS.TryMany
import HandS.ExcInit
import HandS.ExcField
import HandS.Defaults
import HandS.IsInst
import HandS.OwnEq
import HandS.DictComp
import HandS.SetKeys
import HandS.Walk
import HandS.Flow
import HandS.Conv
import HandS.TupAny
import HandS.Zip
import HandS.Style
import HandS.HeadHook1
import HandS.HeadHook2
import HandS.HeadHook3
import HandS.HeadHook4
import KE.GoesNew
import KE.GoesEnum
import KE.KStateDown
import HandS.Head0
import HandS.Head1
import HandS.Head2
import HandS.HeadEnd
import HandS.SetBool
import HandS.SetFor
import HandS.SetTxt0
import PyProof.Rows.SortShellAny
import PySem.Challenge.RW_readmoments_k03_programs_refused
set_option Elab.async false
set_option linter.all false
set_option maxRecDepth 100000
set_option maxHeartbeats 2000000
namespace RM
open PySem PySem.Spec PyProof.Rows L2

/-! ### calls by promise -/
section
variable (P : Program) (w : World) (K : PySem.W.Frag) (mg : Str → Option Value) (base : Heap) (CX : CXT)
/-- a def by its global name -/
def Cal (k : Nat) (x : Str) (sp : Sp) : Prop :=
  ∃ (f : Addr) (fd : FuncData) (ps : List Str), FnOk P w K mg base CX k f fd ps sp ∧ mg x = some (.ref f) ∧ PySem.W.keepIn K (.ref f) = true ∧ Binds K fd ps []
/-- the class at C: its method m -/
def Met (k : Nat) (C : Addr) (m : Str) (sp : Sp) : Prop :=
  ∃ (f : Addr) (fd : FuncData) (ps : List Str), Cls K C ∧ Meth K C m f ∧ FnOk P w K mg base CX k f fd ps sp ∧ Binds K fd ps []
/-- a class that is made by its name; sp: its __init__ -/
def Mak (k : Nat) (x : Str) (C : Addr) (sp : Sp) : Prop :=
  ∃ (f : Addr) (fd : FuncData) (ps : List Str), Mk K C f ∧ FnOk P w K mg base CX k f fd ps sp ∧ mg x = some (.ref C) ∧ Binds K fd ps []
end
section
variable {P : Program} {w : World} {K : PySem.W.Frag} {mg : Str → Option Value} {base : Heap} {CX : CXT} {k : Nat} {x m : Str} {C : Addr} {sp : Sp}
theorem Cal.mono {j : Nat} (c : Cal P w K mg base CX j x sp) (h : j ≤ k) : Cal P w K mg base CX k x sp := let ⟨f, fd, ps, F, a, b, d⟩ := c; ⟨f, fd, ps, F.mono h, a, b, d⟩
theorem Met.mono {j : Nat} (c : Met P w K mg base CX j C m sp) (h : j ≤ k) : Met P w K mg base CX k C m sp := let ⟨f, fd, ps, a, b, F, d⟩ := c; ⟨f, fd, ps, a, b, F.mono h, d⟩
theorem Mak.mono {j : Nat} (c : Mak P w K mg base CX j x C sp) (h : j ≤ k) : Mak P w K mg base CX k x C sp := let ⟨f, fd, ps, a, F, b, d⟩ := c; ⟨f, fd, ps, a, F.mono h, b, d⟩
theorem Cal.imp {sp' : Sp} (c : Cal P w K mg base CX k x sp) (h : ∀ vs H Q E, sp' vs H Q E → sp vs H Q E) : Cal P w K mg base CX k x sp' := let ⟨f, fd, ps, F, a, b, d⟩ := c; ⟨f, fd, ps, F.imp h, a, b, d⟩
theorem Met.imp {sp' : Sp} (c : Met P w K mg base CX k C m sp) (h : ∀ vs H Q E, sp' vs H Q E → sp vs H Q E) : Met P w K mg base CX k C m sp' := let ⟨f, fd, ps, a, b, F, d⟩ := c; ⟨f, fd, ps, a, b, F.imp h, d⟩
/-- nothing leaves by an error: the body's form -/
def Body0 (P : Program) (w : World) (K : PySem.W.Frag) (mg : Str → Option Value) (base : Heap) (N : List Str) (qual : Str) (st : Stmt) (f : Addr) (k : Nat) (sp : Sp) : Prop :=
  ∀ (cdv : Value) (A : Around) (outer : List Env) (s : Shared) (H : Hp) (vs : List V) (Q : VK) (E : XK), Room k (A.deeper (envOfC qual (defScope st) s.heap.objs.size f cdv)) → sp vs H Q E →
    ∃ t, PSs (cxOf CX0 P w K mg base N qual (defScope st) f cdv A outer s H E).nox (defBody st) t ∧ t { nx := fun _ H' => Q .non H', rt := Q } (start N vs) H
theorem fn_0 {qual : Str} {st : Stmt} {f : Addr} {fd : FuncData} {N ps : List Str} (F : FunD K x qual (defArgs st) (defBody st) (defScope st) [] [] f fd) (S : FnScope N ps (defScope st))
    (len : ∀ vs H Q E, sp vs H Q E → vs.length = ps.length) (h : Body0 P w K mg base N qual st f k sp) : FnOk P w K mg base CX0 (k + 1) f fd ps sp :=
  F.ok S len fun cdv A outer s H vs Q E hr hsp => let ⟨t, a, b⟩ := h cdv A outer s H vs Q E hr hsp; ⟨t, a.nox, b⟩
theorem cal_0 {st : Stmt} {f : Addr} {N ps : List Str} (F : ∃ fd, FunD K x x (defArgs st) (defBody st) (defScope st) [] [] f fd) (hm : mg x = some (.ref f)) (S : FnScope N ps (defScope st))
    (hb : ∀ (kV doc pm : Value) (an : Option Addr) (cdv ct : Value) (us : List Value), us.length = ps.length → bindArgs (PySem.W.fnOf x x (defArgs st) (defBody st) (defScope st) .none kV doc pm an cdv ct) ⟨us, []⟩ = pure (ps.zip us))
    (len : ∀ vs H Q E, sp vs H Q E → vs.length = ps.length) (h : Body0 P w K mg base N x st f k sp) : Cal P w K mg base CX0 (k + 1) x sp :=
  let ⟨fd, F⟩ := F
  ⟨f, fd, ps, fn_0 F S len h, hm, F.kp, F.bindsN hb⟩
theorem cal_never {x : Str} {st : Stmt} {f : Addr} {ps : List Str} {sp : Sp} {k : Nat} (F : ∃ fd, FunD K x x (defArgs st) (defBody st) (defScope st) [] [] f fd) (hm : mg x = some (.ref f))
    (hb : ∀ (kV doc pm : Value) (an : Option Addr) (cdv ct : Value) (us : List Value), us.length = ps.length → bindArgs (PySem.W.fnOf x x (defArgs st) (defBody st) (defScope st) .none kV doc pm an cdv ct) ⟨us, []⟩ = pure (ps.zip us))
    (no : ∀ vs H Q E, ¬ sp vs H Q E) : Cal P w K mg base CX0 k x sp :=
  let ⟨fd, F⟩ := F
  ⟨f, fd, ps, ⟨fun vs H Q E h => absurd h (no vs H Q E), fun A outer s H args us vs Q E _ _ _ _ h => absurd h (no vs H Q E)⟩, hm, F.kp, F.bindsN hb⟩
theorem met_0 {qual : Str} {st : Stmt} {f : Addr} {N ps : List Str} (F : ∃ fd, FunD K m qual (defArgs st) (defBody st) (defScope st) [] [] f fd) (c : Cls K C) (me : Meth K C m f) (S : FnScope N ps (defScope st))
    (hb : ∀ (kV doc pm : Value) (an : Option Addr) (cdv ct : Value) (us : List Value), us.length = ps.length → bindArgs (PySem.W.fnOf m qual (defArgs st) (defBody st) (defScope st) .none kV doc pm an cdv ct) ⟨us, []⟩ = pure (ps.zip us))
    (len : ∀ vs H Q E, sp vs H Q E → vs.length = ps.length) (h : Body0 P w K mg base N qual st f k sp) : Met P w K mg base CX0 (k + 1) C m sp :=
  let ⟨fd, F⟩ := F
  ⟨f, fd, ps, c, me, fn_0 F S len h, F.bindsN hb⟩
theorem mak_0 {qual : Str} {st : Stmt} {f : Addr} {N ps : List Str} (F : ∃ fd, FunD K "__init__" qual (defArgs st) (defBody st) (defScope st) [] [] f fd) (M : Mk K C f) (hm : mg x = some (.ref C)) (S : FnScope N ps (defScope st))
    (hb : ∀ (kV doc pm : Value) (an : Option Addr) (cdv ct : Value) (us : List Value), us.length = ps.length → bindArgs (PySem.W.fnOf "__init__" qual (defArgs st) (defBody st) (defScope st) .none kV doc pm an cdv ct) ⟨us, []⟩ = pure (ps.zip us))
    (len : ∀ vs H Q E, sp vs H Q E → vs.length = ps.length) (h : Body0 P w K mg base N qual st f k sp) : Mak P w K mg base CX0 (k + 1) x C sp :=
  let ⟨fd, F⟩ := F
  ⟨f, fd, ps, M, fn_0 F S len h, hm, F.bindsN hb⟩
end
section
variable {X : Cx} {CX : CXT} {k j : Nat} {C : Addr} {x m : Str} {sp : Sp} {E : XK} {p pos apos : Pos} {e o : Expr} {es : List Expr} {ta : TE} {t : TA}
theorem pc (c : Cal X.prog X.w X.K X.mg X.base CX0 k x sp) (hr : Room j X.A) (ha : PA X (e :: es) t) (hk : k ≤ j := by omega) (hg : Gl X x := by rfl)
    (hpl : (backTo pos (starEach es X.env)).any (·.1) = false := by rfl) (he : starEach (e :: es) X.env = (false, eval e X.env) :: starEach es X.env := by rfl) (hdb : (x == ("__debug__" : Str)) = false := by decide) :
    PE X (.Call (.Name x p) (e :: es) [] pos) (tCall sp [] E0 t) := by
  obtain ⟨f, fd, ps, F, hm, kp, b⟩ := c
  exact pe_call F (hr.mono hk) hg hm kp b .nil pass0 ha hdb he hpl
theorem pc0 (c : Cal X.prog X.w X.K X.mg X.base CX0 k x sp) (hr : Room j X.A) (hk : k ≤ j := by omega) (hg : Gl X x := by rfl)
    (hdb : (x == ("__debug__" : Str)) = false := by decide) :
    PE X (.Call (.Name x p) [] [] pos) (tCall sp [] E0 tNil) := by
  obtain ⟨f, fd, ps, F, hm, kp, b⟩ := c
  exact pe_call0 F (hr.mono hk) hg hm kp b .nil pass0 hdb
theorem pmk (c : Mak X.prog X.w X.K X.mg X.base CX0 k x C sp) (hr : Room j X.A) (ha : PA X (e :: es) t) (hk : k + 1 ≤ j := by omega) (hg : Gl X x := by rfl)
    (hpl : (backTo pos (starEach es X.env)).any (·.1) = false := by rfl) (he : starEach (e :: es) X.env = (false, eval e X.env) :: starEach es X.env := by rfl) (hdb : (x == ("__debug__" : Str)) = false := by decide) :
    PE X (.Call (.Name x p) (e :: es) [] pos) (tMake C sp [] E0 t) := by
  obtain ⟨f, fd, ps, M, F, hm, b⟩ := c
  exact pe_make M F (hr.mono hk) hg hm b .nil pass0 ha hdb he hpl
theorem pmt {pl : Sem Bool} (c : Met X.prog X.w X.K X.mg X.base CX0 k C m sp) (hr : Room j X.A) (he : PE X o ta) (ha : PA X (e :: es) t) (hk : k ≤ j := by omega)
    (hst : starEach (e :: es) X.env = (false, eval e X.env) :: starEach es X.env := by rfl) (hpl : (backTo pos (starEach es X.env)).any (·.1) = false := by rfl)
    (ht : eval (.Call (.Attribute o m apos) (e :: es) [] pos) X.env = (do
      let ov ← eval o X.env
      standAt apos.atName
      let (f, first) ← holding [ov] (getMethod ov m pl)
      callWith pos f first (backTo pos (starEach (e :: es) X.env)) (backToKw pos (keywordEach [] X.env))) := by rfl) :
    PE X (.Call (.Attribute o m apos) (e :: es) [] pos) (tMeth C m sp [] E0 ta t) := by
  obtain ⟨f, fd, ps, hc, hm, F, b⟩ := c
  exact pe_meth (pl := pl) he hc hm F (hr.mono hk) b .nil pass0 ha hst hpl ht
theorem pmt0 {pl : Sem Bool} (c : Met X.prog X.w X.K X.mg X.base CX0 k C m sp) (hr : Room j X.A) (he : PE X o ta) (hk : k ≤ j := by omega)
    (ht : eval (.Call (.Attribute o m apos) [] [] pos) X.env = (do
      let ov ← eval o X.env
      standAt apos.atName
      let (f, first) ← holding [ov] (getMethod ov m pl)
      callWith pos f first (backTo pos (starEach [] X.env)) (backToKw pos (keywordEach [] X.env))) := by rfl) :
    PE X (.Call (.Attribute o m apos) [] [] pos) (tMeth C m sp [] E0 ta tNil) := by
  obtain ⟨f, fd, ps, hc, hm, F, b⟩ := c
  exact pe_meth0 (pl := pl) he hc hm F (hr.mono hk) b .nil pass0 ht
/-- a module's constant, told by what mg says -/
theorem pgl {v : V} {u : Value} (hm : X.mg x = some u) (r : RelV v u) (hg : Gl X x := by rfl) (hd : (x == ("__debug__" : Str)) = false := by decide) : PE X (.Name x p) (tC v) := pe_glob hg hm r hd
theorem pglR {a : Addr} (hm : X.mg x = some (.ref a)) (hg : Gl X x := by rfl) (hd : (x == ("__debug__" : Str)) = false := by decide) : PE X (.Name x p) (tC (.ref a)) := pe_glob hg hm rfl hd
theorem pglI {i : Int} (hm : ∃ t, X.mg x = some (.int i t)) (hg : Gl X x := by rfl) (hd : (x == ("__debug__" : Str)) = false := by decide) : PE X (.Name x p) (tC (.int i)) := let ⟨t, h⟩ := hm; pe_glob hg h ⟨t, rfl⟩ hd
theorem pglS {z : Str} (hm : ∃ t, X.mg x = some (.str z t)) (hg : Gl X x := by rfl) (hd : (x == ("__debug__" : Str)) = false := by decide) : PE X (.Name x p) (tC (.str z)) := let ⟨t, h⟩ := hm; pe_glob hg h ⟨t, rfl⟩ hd
/-- a built-in class as a value -/
theorem pty {n : String} (hm : X.mg x = none) (hv : bootBuiltins x = some (.type n)) (hg : Gl X x := by rfl) (hn : x ≠ "__name__" := by decide) (hd : (x == ("__debug__" : Str)) = false := by decide) : PE X (.Name x p) (tC (.ty n)) := pe_bltn hg hm hv rfl hn hd
/-- a built-in function, a built-in class, called -/
theorem pcb {id : String} {r : List V → Hp → VK → Prop} (hm : X.mg x = none) (hc : CallR X (.builtin id) r) (hv : bootBuiltins x = some (.builtin id)) (ha : PA X (e :: es) t) (hg : Gl X x := by rfl) (hn : x ≠ "__name__" := by decide) (hdb : (x == ("__debug__" : Str)) = false := by decide)
    (he : starEach (e :: es) X.env = (false, eval e X.env) :: starEach es X.env := by rfl) (hpl : (backTo pos (starEach es X.env)).any (·.1) = false := by rfl) : PE X (.Call (.Name x p) (e :: es) [] pos) (tCB r t) := pe_callB hc hg hm hv ha hn hdb he hpl
theorem pct {T : String} {r : List V → Hp → VK → Prop} (hm : X.mg x = none) (hc : CallR X (.type T) r) (hv : bootBuiltins x = some (.type T)) (ha : PA X (e :: es) t) (hg : Gl X x := by rfl) (hn : x ≠ "__name__" := by decide) (hdb : (x == ("__debug__" : Str)) = false := by decide)
    (he : starEach (e :: es) X.env = (false, eval e X.env) :: starEach es X.env := by rfl) (hpl : (backTo pos (starEach es X.env)).any (·.1) = false := by rfl) : PE X (.Call (.Name x p) (e :: es) [] pos) (tCB r t) := pe_callTy hc hg hm hv ha hn hdb he hpl
end
/-! ### the rules whose readings name the written part: K told apart (for a comprehension's block) -/
section
variable {X : Cx} {K : PySem.W.Frag} {e o : Expr} {es : List Expr} {ta : TE} {t : TA} {pos : Pos}
theorem pg_tup' {k : Nat} {t : TGs} {n : Nat} (hK : X.K = K) (hc : X.calm = true) (h : PGs X es t)
    (hn : (assignEach es X.env).length = n) (hst : (assignEach es X.env).findIdx? (·.1) = none) : PG X (.Tuple es k pos) (gTup K n t) := by
  subst hK
  exact pg_tup hc h hn hst
theorem ix_tup' (hK : X.K = K) : IxR X (rIxT K) := by subst hK; exact ix_tup
theorem ix_list' (hK : X.K = K) : IxR X (rIxL K) := by subst hK; exact ix_list
theorem call_isi' (hK : X.K = K) : CallR X (.builtin "isinstance") (rIsi K) := by subst hK; exact call_isi
theorem call_isiT' (hK : X.K = K) : CallR X (.builtin "isinstance") (rIsiT K) := by subst hK; exact call_isiT
theorem call_len_seq' (hK : X.K = K) : CallR X (.builtin "len") (fun xs H Q => ∃ p ys, xs = [.ref p] ∧ (SqL K H p ys ∨ SqT K H p ys) ∧ Q (.int ys.length) H) := by subst hK; exact call_len_seq
theorem ix_kdict' {w : World} (hK : X.K = K) (hw : X.w = w) : IxR X (rIxD K w) := by subst hK hw; exact ix_kdict
theorem pe_fld' {f : Str} (hK : X.K = K) (he : PE X e ta) (hb : attributeBase e f X.env (eval e X.env) = eval e X.env) : PE X (.Attribute e f pos) (tFld K ta f) := by subst hK; exact pe_fld he hb
end
/-! ### places -/
theorem at0 {v : V} {xs : List V} : atI (v :: xs) 0 = some v := atI_nat (j := 0) rfl
theorem at1 {a v : V} {xs : List V} : atI (a :: v :: xs) 1 = some v := atI_nat (j := 1) rfl
theorem at2 {a b v : V} {xs : List V} : atI (a :: b :: v :: xs) 2 = some v := atI_nat (j := 2) rfl
theorem at3 {a b c v : V} {xs : List V} : atI (a :: b :: c :: v :: xs) 3 = some v := atI_nat (j := 3) rfl
theorem at4 {a b c d v : V} {xs : List V} : atI (a :: b :: c :: d :: v :: xs) 4 = some v := atI_nat (j := 4) rfl
theorem yesI {σ : L2.St} {H : Hp} {X Y : Hp → Prop} (h : X H) : tYes σ H (fun b H3 => if b = true then X H3 else Y H3) := by
  show if true = true then X H else Y H
  rw [if_pos rfl]
  exact h
/-! ### ifs -/
theorem ifT {c : Bool} {A B : Prop} (hc : c = true) (h : A) : if c = true then A else B := by
  rw [if_pos hc]
  exact h
theorem ifF {c : Bool} {A B : Prop} (hc : c = false) (h : B) : if c = true then A else B := by
  rw [hc, if_neg Bool.false_ne_true]
  exact h
theorem qT {Q : VK} {c : Bool} {H : Hp} (h : c = true) (q : Q (.bl true) H) : Q (.bl c) H := by rw [h]; exact q
theorem qF {Q : VK} {c : Bool} {H : Hp} (h : c = false) (q : Q (.bl false) H) : Q (.bl c) H := by rw [h]; exact q
theorem ifB {c : Bool} {A B : Prop} (h1 : c = true → A) (h2 : c = false → B) : if c = true then A else B := by
  cases c with
  | true => exact ifT rfl (h1 rfl)
  | false => exact ifF rfl (h2 rfl)
/-! ### what a head tells beside the listed facts -/
/-- an own class whose instances isinstance reads -/
def insB (K : PySem.W.Frag) (x : Str) : Bool := He.eqO (PySem.W.findIn K (.ref (He.ga K x)) "__class__") (some (some (.builtin "object.__class__"))) &&
  (He.eqO (PySem.W.specialIn K (.builtin "object.__class__") "__get__") (some (some (.builtin "getset_descriptor.__get__"))) && (decide (PySem.W.takesIn K (.builtin "object.__class__") = some true) &&
    decide (PySem.W.mroIn K (He.ga K x) (.type "object") = some true)))
theorem insB_ty {K : PySem.W.Frag} {H : Hp} {x : Str} (h : insB K x = true) (cl : Cls K (He.ga K x)) {a dx : Addr} {fs : List (Str × V)} (e : H a = some (.ins (He.ga K x) dx fs)) : TyOf K H (.ref a) (.ref (He.ga K x)) := by
  obtain ⟨h1, h⟩ := He.ba h
  obtain ⟨h2, h⟩ := He.ba h
  obtain ⟨h3, h4⟩ := He.ba h
  exact .ins e cl (He.eqO_ok h1) (He.eqO_ok h2) (of_decide_eq_true h3) (of_decide_eq_true h4)
/-- isinstance between two own classes -/
def kitC (K : PySem.W.Frag) (x y : Str) (b : Bool) : Bool := decide (PySem.W.kitOne K (.ref (He.ga K x)) (.ref (He.ga K y)) = some b)
theorem kitC_ok {K : PySem.W.Frag} {x y : Str} {b : Bool} (h : kitC K x y b = true) : PySem.W.kitOne K (.ref (He.ga K x)) (.ref (He.ga K y)) = some b := of_decide_eq_true h
/-- a special method of an own class is its def -/
def spcB (K : PySem.W.Frag) (x m : Str) : Bool := He.eqO (PySem.W.findIn K (.ref (He.ga K x)) m) (some (some (.ref (He.ma K (He.ga K x) m)))) && PySem.W.isFn K (.ref (He.ma K (He.ga K x) m))
theorem spcB_ok {K : PySem.W.Frag} {x m : Str} (h : spcB K x m = true) : PySem.W.findIn K (.ref (He.ga K x)) m = some (some (.ref (He.ma K (He.ga K x) m))) ∧ PySem.W.isFn K (.ref (He.ma K (He.ga K x) m)) = true :=
  let ⟨a, b⟩ := He.ba h; ⟨He.eqO_ok a, b⟩
/-! ### isinstance -/
theorem isi_ty {K : PySem.W.Frag} {H : Hp} {Q : VK} {x : V} {t n : String} {b : Bool} (ty : TyX K H x (.type t)) (q : Q (.bl b) H) (e : kitB t n = some b := by decide +kernel) : rIsi K [x, .ty n] H Q :=
  ⟨x, .ty n, .type t, .type n, b, rfl, .ty n, ty, kit_ty e, q⟩
/-! ### a statement told by what holds behind it -/
def tMid (t : TS) : TS := fun D σ H => ∃ M : L2.St → Hp → Prop, t { D with nx := M } σ H ∧ ∀ σ' H', M σ' H' → D.nx σ' H'
theorem ps_mid {X : Cx} {st : Stmt} {t : TS} (h : PS X st t) : PS X st (tMid t) := by
  constructor
  rintro pins s σ H D I ⟨M, a, b⟩
  refine wpAny_mono (h.run pins s σ H _ I a) (fun f s' z => ?_) fun _ _ z => z
  cases f with
  | next =>
    obtain ⟨σ', H', I', m⟩ := z
    exact ⟨σ', H', I', b σ' H' m⟩
  | ret v => exact z
  | brk => exact z
  | cont => exact z
end RM

set_option Elab.async false
set_option linter.all false
/-! sequences of either kind: for x in v -/
namespace RM
open PySem PySem.Spec
open PyProof.Rows
open L2
/-- what is laid behind the last address is no one's -/
theorem late {X : Cx} {pins : List (Addr × Obj)} {σ : L2.St} {H : Hp} {s : Shared} (inv : Inv X pins σ H s) : ∀ b ∈ [s.heap.objs.size], FpOk X pins H b := by
  intro b hb
  obtain rfl := List.mem_singleton.mp hb
  exact inv.fpOk (Nat.le_refl _) (inv.hok.fresh (Nat.le_refl _))
@[irreducible] def SeqG (K : PySem.W.Frag) (x : V) (H1 : Hp) (R : It → Hp → Prop) : Prop :=
  ∃ a, x = .ref a ∧ ((∃ xs, SqL K H1 a xs ∧ R (Itl K a) H1) ∨ (∃ xs, SqT K H1 a xs ∧ R (Itt K a) H1))
def iSeqA (K : PySem.W.Frag) (tl : TE) : TI := fun σ H R => tl σ H fun x H1 => SeqG K x H1 R
theorem pi_seqA {X : Cx} {tg l : Expr} {tl : TE} (hl : PE X l tl) : PI X tg l (iSeqA X.K tl) := by
  constructor
  intro pins s σ H R inv pre
  refine thn (hl.run pins s σ H _ inv pre) ?_
  rintro v s1 ⟨x, H1, inv1, rel, post⟩
  rw [show SeqG X.K x H1 R = (∃ a, x = .ref a ∧ ((∃ xs, SqL X.K H1 a xs ∧ R (Itl X.K a) H1) ∨ (∃ xs, SqT X.K H1 a xs ∧ R (Itt X.K a) H1))) by unfold SeqG; rfl] at post
  obtain ⟨a, rfl, ⟨xs, sq, r⟩ | ⟨xs, sq, r⟩⟩ := post
  · obtain rfl : v = .ref a := rel
    obtain ⟨its, _, at_, _⟩ := inv1.list sq
    exact wpAny_pyIter_list at_.isList ⟨_, _, _, _, _, rfl, inv1.kept (t' := s1.toks) fun _ _ e => Heap.get?_push_of_some _ e, turn_list a _, ⟨_, Heap.get?_push_size _ rfl, rfl, rfl⟩, late inv1, r⟩
  · obtain rfl : v = .ref a := rel
    obtain ⟨its, _, at_, _⟩ := inv1.tuple sq
    exact wpAny_pyIter_tuple (items := its.toArray) at_ ⟨_, _, _, _, _, rfl, inv1.kept (t' := s1.toks) fun _ _ e => Heap.get?_push_of_some _ e, turn_tuple a _, ⟨_, Heap.get?_push_size _ rfl, rfl, rfl⟩, late inv1, r⟩
end RM

set_option Elab.async false
set_option linter.all false
set_option maxRecDepth 100000
/-! enumerate(a tuple): how it is made -/
namespace RM
open PySem PySem.Spec
open PyProof.Rows
open L2
abbrev tupIt (a : Addr) : Obj := { cls := .type "tuple_iterator", data := .fields #[.ref a, .int 0 0] }
abbrev enOb (e : Addr) : Obj := { cls := .type "enumerate", data := .fields #[.none, .bool false, .ref e, rawInt 0, .none, .none] }
theorem made_enum (a : Addr) (its : Array Value) : Meets (Builtin.«enumerate.__new__» ⟨[.type "enumerate", .ref a], []⟩)
    fun _ R s => s.heap.IsTuple a its ∧ R (.ok (.ret (.ref (s.heap.push (tupIt a)).objs.size))) { s with heap := (s.heap.push (tupIt a)).push (enOb s.heap.objs.size) } := by
  refine .of_wp ?_
  rintro prog w A R ⟨hp, g, d, tk, os⟩ ⟨tup, fin⟩
  have sub := sub_enumerate
  have go : ∀ {B : Around} {EE QQ : Value → Shared → Prop}, QQ (.ref hp.objs.size) ⟨hp.push (tupIt a), g, d, tk, os⟩ → wpAny (model prog w) B (pyIter (.ref a)) QQ EE ⟨hp, g, d, tk, os⟩ :=
    wpAny_pyIter_tuple (s := ⟨hp, g, d, tk, os⟩) tup
  wp_walk using go
  refine wpAny_stack_any fun frames => ?_
  apply wpAny_pure
  split
  case h_1 c _ _ _ _ _ =>
    by_cases e : (c == Value.type "enumerate") = true
    all_goals (simp only [e]; wp_walk using go; exact ⟨_, rfl, fin⟩)
  case h_2 => wp_walk using go; exact ⟨_, rfl, fin⟩
section
variable {P : Program} {w : World} {s : Shared} {A : Around} {E : Value → Shared → Prop}
/-- enumerate(t): the enumerate object stands one behind the tuple's iterator -/
theorem call_enumT {a : Addr} {its : Array Value} {Q : Value → Shared → Prop} (tup : s.heap.IsTuple a its)
    (then_ : ∀ hp : Heap, IsEnum hp (s.heap.objs.size + 1) s.heap.objs.size ((0 : Nat) : Int) .none → hp.get? s.heap.objs.size = some (tupIt a) → (∀ c u, s.heap.get? c = some u → hp.get? c = some u) → Q (.ref (s.heap.objs.size + 1)) { s with heap := hp }) :
    wpAny (model P w) A (call (.type "enumerate") [.ref a]) Q E s := by
  have sz : (s.heap.push (tupIt a)).objs.size = s.heap.objs.size + 1 := Heap.size_push _ _
  have at1 : ((s.heap.push (tupIt a)).push (enOb s.heap.objs.size)).get? (s.heap.objs.size + 1) = some (enOb s.heap.objs.size) := sz ▸ Heap.get?_push_size (s.heap.push (tupIt a)) (o := enOb s.heap.objs.size) rfl
  apply callType_new F.called_enumerate (by decide) (F.typeCall_enumerate_1 (.ref a)) (F.newCall_enumerate_1 (.ref a)) (fun o => F.args_object_init_2 o (.ref a)) F.entry_enumerate_new (made_enum a its)
  refine ⟨tup, ?_⟩
  show Shared.TypeIs _ _ _ ∧ Q _ _
  rw [sz]
  exact ⟨⟨_, at1, rfl⟩, then_ _ at1 (Heap.get?_push_of_some _ (Heap.get?_push_size _ rfl)) fun c u old => Heap.get?_push_of_some _ (Heap.get?_push_of_some _ old)⟩
end
theorem turn_pair {P : Program} {w : World} {K : PySem.W.Frag} {elts : List Expr} {kk : Nat} {tpos : Pos} {J : It} {fp : List Addr} {it : Addr} {tn : Nat → Heap → Prop}
    (mem : it ∈ fp) (obj : ∀ i h, tn i h → ∀ b ∈ fp, ∃ o, h.get? b = some o ∧ ∀ v, o.data ≠ .cell v)
    (keep : ∀ i h h', tn i h → (∀ b ∈ fp, ∀ o, h.get? b = some o → h'.get? b = some o) → tn i h')
    (self : ∀ (A : Around) (i : Nat) (s : Shared) (Q : Value → Shared → Prop) (E : Value → Shared → Prop), tn i s.heap → Q (.ref it) s → wpAny (model P w) A (pyIter (.ref it)) Q E s)
    (go : ∀ (X : Cx), X.prog = P → X.w = w → X.K = K → ∀ (i : Nat) (pins : List (Addr × Obj)) (s : Shared) (σ : L2.St) (H : Hp), Inv X pins σ H s → X.A.handled = none → tn i s.heap → J.go i H →
      ∃ (fp' wr : List Addr) (n : Nat) (Y : Nat → Heap → Value → Heap → Prop) (St : Nat → Heap → Prop), GoesN P w X.A (.Tuple elts kk tpos) it fp' wr n Y St ∧ i < n ∧ St i s.heap ∧ (∀ b ∈ wr, b ∈ fp) ∧
        ∀ v h', Y i s.heap v h' → St (i + 1) h' → ∃ T u1 u2 x y, v = .ref T ∧ s.heap.objs.size ≤ T ∧ h'.IsTuple T #[u1, u2] ∧ RelV x u1 ∧ RelV y u2 ∧ tn (i + 1) h' ∧ J.yld i H (.ref T) (upd H T (.tup [x, y])))
    (stop : ∀ (X : Cx), X.prog = P → X.w = w → X.K = K → ∀ (i : Nat) (pins : List (Addr × Obj)) (s : Shared) (σ : L2.St) (H : Hp), Inv X pins σ H s → X.A.handled = none → tn i s.heap → J.stop i H →
      ∃ (fp' wr : List Addr) (Y : Nat → Heap → Value → Heap → Prop) (St : Nat → Heap → Prop), GoesN P w X.A (.Tuple elts kk tpos) it fp' wr i Y St ∧ St i s.heap ∧ (∀ b ∈ wr, b ∈ fp)) :
    Turn P w K (.Tuple elts kk tpos) J fp it tn where
  mem := mem
  obj := obj
  keep := keep
  item := by
    rintro X hP hw hK hc i pins s σ H E I hf st hg
    obtain ⟨fp', wr, n, Y, St, W, hi, hs, hwr, hy⟩ := go X hP hw hK i pins s σ H I (I.ok.hd hc) st hg
    refine wpAny_mono (W.goes i s (fun v s2 => ∃ x H', Inv X pins σ H' s2 ∧ RelV x v ∧ J.yld i H x H' ∧ tn (i + 1) s2.heap ∧ ∀ b ∈ fp, H' b = none) E hi hs fun v h' tk y st' hk htk => ?_) (fun r s1 q => q) fun _ _ q => q
    obtain ⟨T, u1, u2, x, y', rfl, hT, ht, r1, r2, t', yl⟩ := hy v h' y st'
    have hd : s.heap.objs.size ≤ T := hT
    have new : ObjOk X.prog X.w (upd H T (.tup [x, y'])) h' T (.tup [x, y']) := ⟨by show 2 ≤ sizeLine; decide, [u1, u2], .cons r1 (.cons r2 .nil), ht⟩
    have I1 : Inv X pins σ (upd H T (.tup [x, y'])) { s with heap := h', toks := tk } := I.turnedNew (ch := fp) (fun c o hb q => hk c o (fun z => hb (hwr c z)) q) hf hT new
    refine ⟨.ref T, _, I1, rfl, yl, t', fun b hb => ?_⟩
    obtain ⟨o, ho, _⟩ := obj i _ st b hb
    rw [upd_ne (Nat.ne_of_lt (Nat.lt_of_lt_of_le (Heap.lt_size ho) hT))]
    exact (hf b hb).1
  done := by
    rintro X hP hw hK hc i pins s σ H E I hf st hg
    obtain ⟨fp', wr, Y, St, W, hs, hwr⟩ := stop X hP hw hK i pins s σ H I (I.ok.hd hc) st hg
    exact W.stops s (fun s1 => Inv X pins σ H s1) E hs fun h' tk hk htk => I.turnedL (ch := fp) (fun c o hb q => hk c o (fun z => hb (hwr c z)) q) hf
  self := self

/-! ### for i, x in enumerate(a tuple) -/
/-- the tuple at a, its items in new pairs behind their numbers -/
def IteT (K : PySem.W.Frag) (a : Addr) : It :=
  ⟨fun i H => ∃ (xs : List V) (x : V), SqT K H a xs ∧ xs[i]? = some x,
    fun i H v H' => ∃ T x, v = .ref T ∧ H T = none ∧ H' = upd H T (.tup [.int (i : Nat), x]) ∧ ∀ xs, SqT K H a xs → xs[i]? = some x,
    fun i H => ∃ xs : List V, SqT K H a xs ∧ xs.length = i⟩
theorem turn_enumT {P : Program} {w : World} {K : PySem.W.Frag} {elts : List Expr} {kk : Nat} {tpos : Pos} {a e it : Addr} (hei : e ≠ it) (hae : a ≠ e) (hai : a ≠ it) :
    Turn P w K (.Tuple elts kk tpos) (IteT K a) [e, it] e (fun i h => (∃ old, IsEnum h e it ((i : Nat) : Int) old) ∧ h.IsTupleIter it a i) := by
  refine turn_pair (by simp) (fun i h st b hb => ?_) (fun i h h' st k => ?_) (fun A i s Q E st h => let ⟨⟨_, he⟩, _⟩ := st; wpAny_pyIter_enum he h) ?_ ?_
  · obtain ⟨⟨old, he⟩, ⟨o2, e2, _, d2⟩⟩ := st
    rcases List.mem_cons.mp hb with rfl | rest
    · exact ⟨_, he, fun v => nofun⟩
    · obtain rfl : b = it := by simpa using rest
      exact ⟨o2, e2, fun v no => by simp [d2] at no⟩
  · obtain ⟨⟨old, he⟩, h2⟩ := st
    exact ⟨⟨old, k e (by simp) _ he⟩, h2.at fun o q => k it (by simp) o q⟩
  · rintro X rfl rfl rfl i pins s σ H I hh ⟨he, hit⟩ ⟨xs, x, hq, hx⟩
    obtain ⟨its, rv, p, _⟩ := I.tuple hq
    obtain ⟨u, hu, ru⟩ := Vals.get (xs := xs) rv hx
    have pt : s.heap.IsTuple a its.toArray := p
    have W := GoesN.enumFrom (prog := X.prog) (w := X.w) (A := X.A) (elts := elts) (x1 := kk) (pos := tpos) 0 (Draws.tuple (prog := X.prog) (w := X.w) (A := X.A.in1) hh it a hai its.toArray) e hei (by simp [hei, Ne.symm hae]) (by simp)
    refine ⟨_, _, _, _, _, W, ?_, ⟨?_, hit, pt⟩, by simp, ?_⟩
    · have : i < its.length := (List.getElem?_eq_some_iff.mp hu).1
      simpa using this
    · obtain ⟨old, he⟩ := he
      exact ⟨old, by simpa using he⟩
    · rintro v h' ⟨T, t, x', rfl, hT, hx', ht⟩ ⟨⟨old, he'⟩, hit', _⟩
      have hx2 : its[i]? = some x' := by simpa using hx'
      rw [hu] at hx2
      cases hx2
      refine ⟨T, _, _, .int (i : Nat), x, rfl, hT, ht, ⟨t, by simp⟩, ru, ⟨⟨old, by simpa using he'⟩, hit'⟩, T, x, rfl, I.hok.fresh hT, rfl, fun l hl => ?_⟩
      rw [I.tuple_inj hl hq]
      exact hx
  · rintro X rfl rfl rfl i pins s σ H I hh ⟨he, hit⟩ ⟨xs, hq, hx⟩
    obtain ⟨its, rv, p, _⟩ := I.tuple hq
    have pt : s.heap.IsTuple a its.toArray := p
    have W := GoesN.enumFrom (prog := X.prog) (w := X.w) (A := X.A) (elts := elts) (x1 := kk) (pos := tpos) 0 (Draws.tuple (prog := X.prog) (w := X.w) (A := X.A.in1) hh it a hai its.toArray) e hei (by simp [hei, Ne.symm hae]) (by simp)
    have hl : its.toArray.size = i := by
      have q := rv.length
      simp only [List.size_toArray]
      omega
    rw [hl] at W
    refine ⟨_, _, _, _, W, ⟨?_, hit, pt⟩, by simp⟩
    obtain ⟨old, he⟩ := he
    exact ⟨old, by simpa using he⟩
theorem walk_enumT {K : PySem.W.Frag} {a : Addr} {xs : List V} : Walk (IteT K a) xs.length (fun H => SqT K H a xs) (YPair (fun i => some (.int (i : Nat))) (fun i => xs[i]?)) where
  goes := fun i H hi h => ⟨xs, xs[i], h, by simp [hi]⟩
  stops := fun H h => ⟨xs, h, rfl⟩
  yields := fun i H x H' hi h ⟨T, y, e1, e2, e3, e4⟩ => ⟨T, _, y, e1, e2, e3, rfl, e4 xs h⟩
/-- enumerate(v): v a list or a tuple -/
@[irreducible] def EnumG (K : PySem.W.Frag) (vs : List V) (H1 : Hp) (R : It → Hp → Prop) : Prop :=
  ∃ a, vs = [.ref a] ∧ ((∃ xs, SqL K H1 a xs ∧ R (Ite K a) H1) ∨ (∃ xs, SqT K H1 a xs ∧ R (IteT K a) H1))
def iEnumA (K : PySem.W.Frag) (ta : TA) : TI := fun σ H R => ta σ H fun vs H1 => EnumG K vs H1 R
theorem late2 {X : Cx} {pins : List (Addr × Obj)} {σ : L2.St} {H : Hp} {s : Shared} (inv : Inv X pins σ H s) : ∀ b ∈ [s.heap.objs.size + 1, s.heap.objs.size], FpOk X pins H b := by
  intro b hb
  have above : s.heap.objs.size ≤ b := by
    have : b = s.heap.objs.size + 1 ∨ b = s.heap.objs.size := by simpa using hb
    omega
  exact inv.fpOk above (inv.hok.fresh above)
theorem pi_enumA {X : Cx} {e : Expr} {ta : TA} {p pos tpos : Pos} {elts : List Expr} {kk : Nat} (hg : Gl X "enumerate") (hm : X.mg "enumerate" = none) (ha : PA X [e] ta) (hs : starEach [e] X.env = [(false, eval e X.env)] := by rfl) :
    PI X (.Tuple elts kk tpos) (.Call (.Name "enumerate" p) [e] [] pos) (iEnumA X.K ta) := by
  constructor
  intro pins s σ H R inv pre
  refine Call_ (ld_blt inv hg hm boot_enumerate (PyProof.Rows.callWith_type1 (thn (ha.run pos pins s σ H _ inv pre) ?_) hs rfl))
  rintro us s1 ⟨vs, H1, inv1, rel, post⟩
  rw [show EnumG X.K vs H1 R = (∃ a, vs = [.ref a] ∧ ((∃ xs, SqL X.K H1 a xs ∧ R (Ite X.K a) H1) ∨ (∃ xs, SqT X.K H1 a xs ∧ R (IteT X.K a) H1))) by unfold EnumG; rfl] at post
  obtain ⟨a, rfl, ⟨xs, sq, r⟩ | ⟨xs, sq, r⟩⟩ := post
  · obtain rfl := Vals.ref1 rel
    obtain ⟨its, _, at_, _⟩ := inv1.list sq
    exact call_enumerate_list at_.isList fun hp en li _ old => wpAny_pyIter_enum en ⟨_, _, _, _, H1, rfl, inv1.kept (t' := s1.toks) old, turn_enum a (s1.heap.objs.size + 1) s1.heap.objs.size, ⟨⟨.none, en⟩, li, Nat.succ_ne_self _⟩, late2 inv1, r⟩
  · obtain rfl := Vals.ref1 rel
    obtain ⟨its, _, at_, _⟩ := inv1.tuple sq
    have low : a < s1.heap.objs.size := at_.lt
    exact call_enumT (its := its.toArray) at_ fun hp en it_ old => wpAny_pyIter_enum en ⟨_, _, _, _, H1, rfl, inv1.kept (t' := s1.toks) old, turn_enumT (Nat.succ_ne_self _) (Nat.ne_of_lt (Nat.lt_succ_of_lt low)) (Nat.ne_of_lt low), ⟨⟨.none, en⟩, ⟨_, it_, rfl, rfl⟩⟩, late2 inv1, r⟩
end RM

set_option Elab.async false
set_option linter.all false
set_option maxRecDepth 100000
/-! zip(a tuple, a text) -/
namespace RM
open PySem PySem.Spec
open PyProof.Rows
open L2
def ItzTS (K : PySem.W.Frag) (a : Addr) (z : Str) : It :=
  ⟨fun i H => ∃ (xs : List V) (x : V) (c : Nat), SqT K H a xs ∧ xs[i]? = some x ∧ z.cps[i]? = some c,
    fun i H v H' => ∃ T x c, v = .ref T ∧ H T = none ∧ H' = upd H T (.tup [x, .str ⟨#[c]⟩]) ∧ (∀ xs, SqT K H a xs → xs[i]? = some x) ∧ z.cps[i]? = some c,
    fun i H => ∃ xs : List V, SqT K H a xs ∧ min xs.length z.cps.size = i⟩
theorem turn_zipTS {P : Program} {w : World} {K : PySem.W.Frag} {elts : List Expr} {kk : Nat} {tpos : Pos} {a z TI TO i1 i2 : Addr} {x : Str} {tx : Tok} (S : ZipSep2 z TI TO i1 i2 [i1, a] [i2]) (hai : a ≠ i1) :
    Turn P w K (.Tuple elts kk tpos) (ItzTS K a x) [z, TI, TO, i1, i2] z (fun i h => IsZip h z TI TO .none ∧ IsTupOf2 h TI (.ref i1) (.ref i2) ∧ (∃ a1 a2, IsTupOf2 h TO a1 a2) ∧ h.IsTupleIter i1 a i ∧ h.IsStrIter i2 (strIterType x) x tx i) := by
  refine turn_pair (by simp) (fun i h st b hb => ?_) (fun i h h' st k => ?_) (fun A i s Q E st h => wpAny_pyIter_zip st.1 h) ?_ ?_
  · obtain ⟨zi, ti, ⟨_, _, to_⟩, ⟨o1, e1, _, d1⟩, ⟨o2, e2, _, d2⟩⟩ := st
    simp only [List.mem_cons, List.not_mem_nil, or_false] at hb ⊢
    have fl : ∀ {o : Obj} {vs : Array Value}, o.data = .fields vs → ∀ v, o.data ≠ .cell v := fun d v no => by simp [d] at no
    obtain rfl | rfl | rfl | rfl | rfl := hb
    · exact ⟨_, zi, fun v => nofun⟩
    · exact ⟨_, ti, fun v => nofun⟩
    · exact ⟨_, to_, fun v => nofun⟩
    · exact ⟨o1, e1, fl d1⟩
    · exact ⟨o2, e2, fl d2⟩
  · obtain ⟨hz, hTI, ⟨a1, a2, hTO⟩, h1, h2⟩ := st
    exact ⟨k z (by simp) _ hz, k TI (by simp) _ hTI, ⟨a1, a2, k TO (by simp) _ hTO⟩, h1.at fun o q => k i1 (by simp) o q, let ⟨o, ho, r⟩ := h2; ⟨o, k i2 (by simp) o ho, r⟩⟩
  · rintro X rfl rfl rfl i pins s σ H I hh ⟨hz, hTI, hTO, h1, h2⟩ ⟨xs, y, c, hq, hx, hc⟩
    obtain ⟨its, rv, p, _⟩ := I.tuple hq
    obtain ⟨u, hu, ru⟩ := Vals.get (xs := xs) rv hx
    have pt : s.heap.IsTuple a its.toArray := p
    have W := GoesN.zip2 (prog := X.prog) (w := X.w) (A := X.A) (elts := elts) (x1 := kk) (pos := tpos) S (Draws.tuple (prog := X.prog) (w := X.w) (A := X.A.in1) hh i1 a hai its.toArray) (Draws.text (prog := X.prog) (w := X.w) (A := X.A.in1) hh i2 x tx)
    refine ⟨_, _, _, _, _, W, ?_, ⟨hz, hTI, hTO, ⟨h1, pt⟩, h2⟩, by simp, ?_⟩
    · have l1 : i < its.length := (List.getElem?_eq_some_iff.mp hu).1
      have l2 : i < x.cps.size := (Array.getElem?_eq_some_iff.mp hc).1
      simp only [List.size_toArray]
      omega
    · rintro v h' ⟨T, x', y', rfl, hT, hx', ⟨c', t', hc', rfl⟩, ht⟩ ⟨hz', hTI', hTO', ⟨h1', _⟩, h2'⟩
      have hx2 : its[i]? = some x' := by simpa using hx'
      rw [hu] at hx2
      cases hx2
      rw [hc] at hc'
      cases hc'
      refine ⟨T, _, _, y, .str ⟨#[c]⟩, rfl, hT, ht, ru, ⟨t', rfl⟩, ⟨hz', hTI', hTO', h1', h2'⟩, T, y, c, rfl, I.hok.fresh hT, rfl, fun l hl => ?_, hc⟩
      rw [I.tuple_inj hl hq]
      exact hx
  · rintro X rfl rfl rfl i pins s σ H I hh ⟨hz, hTI, hTO, h1, h2⟩ ⟨xs, hq, hl⟩
    obtain ⟨its, rv, p, _⟩ := I.tuple hq
    have pt : s.heap.IsTuple a its.toArray := p
    have W := GoesN.zip2 (prog := X.prog) (w := X.w) (A := X.A) (elts := elts) (x1 := kk) (pos := tpos) S (Draws.tuple (prog := X.prog) (w := X.w) (A := X.A.in1) hh i1 a hai its.toArray) (Draws.text (prog := X.prog) (w := X.w) (A := X.A.in1) hh i2 x tx)
    have hl2 : min its.toArray.size x.cps.size = i := by
      have q := rv.length
      simp only [List.size_toArray]
      omega
    rw [hl2] at W
    exact ⟨_, _, _, _, W, ⟨hz, hTI, hTO, ⟨h1, pt⟩, h2⟩, by simp⟩
def iZipTS (K : PySem.W.Frag) (ta : TA) : TI := fun σ H R => ta σ H fun vs H1 => ∃ a xs z, vs = [.ref a, .str z] ∧ SqT K H1 a xs ∧ R (ItzTS K a z) H1
theorem late5 {X : Cx} {pins : List (Addr × Obj)} {σ : L2.St} {H : Hp} {s : Shared} (inv : Inv X pins σ H s) :
    ∀ b ∈ [s.heap.objs.size + 4, s.heap.objs.size + 2, s.heap.objs.size + 3, s.heap.objs.size, s.heap.objs.size + 1], FpOk X pins H b := by
  intro b hb
  have above : s.heap.objs.size ≤ b := by
    have : b = s.heap.objs.size + 4 ∨ b = s.heap.objs.size + 2 ∨ b = s.heap.objs.size + 3 ∨ b = s.heap.objs.size ∨ b = s.heap.objs.size + 1 := by
      simpa using hb
    omega
  exact inv.fpOk above (inv.hok.fresh above)
theorem pi_zipTS {X : Cx} {e e2 : Expr} {ta : TA} {p pos tpos : Pos} {elts : List Expr} {kk : Nat} (hg : Gl X "zip") (hm : X.mg "zip" = none) (ha : PA X [e, e2] ta)
    (two : starEach [e, e2] X.env = (false, eval e X.env) :: starEach [e2] X.env := by rfl)
    (plain : (backTo pos (starEach [e2] X.env)).any (·.1) = false := by rfl) : PI X (.Tuple elts kk tpos) (.Call (.Name "zip" p) [e, e2] [] pos) (iZipTS X.K ta) := by
  constructor
  intro pins s σ H R inv pre
  refine Call_ (ld_blt inv hg hm PyProof.Rows.boot_zip (PyProof.Rows.callWith_type1 (thn (ha.run pos pins s σ H _ inv pre) ?_) two plain))
  rintro us s1 ⟨_, H1, inv1, rel, a, xs, z, rfl, sq, r⟩
  obtain ⟨_, u, rfl, rfl, ⟨tx, rfl⟩⟩ := vals2 rel
  obtain ⟨its, _, at_, _⟩ := inv1.tuple sq
  have low : a < s1.heap.objs.size := at_.lt
  have sep := zip_sep2 (N := s1.heap.objs.size) (fp1 := [a]) (fp2 := []) (fun b hb => (List.mem_singleton.mp hb).symm ▸ low) nofun
  exact zip_begins2 (begins_tuple a its.toArray) (begins_text z tx) at_ trivial fun hp zi ti to_ i1 i2 _ old =>
    wpAny_pyIter_zip zi ⟨_, _, _, _, H1, rfl, inv1.kept (t' := s1.toks) old, turn_zipTS sep (Nat.ne_of_lt low), ⟨zi, ti, ⟨_, _, to_⟩, ⟨_, i1, rfl, rfl⟩, ⟨_, i2, rfl, rfl⟩⟩, late5 inv1, r⟩
theorem walk_zipTS {K : PySem.W.Frag} {a : Addr} {xs : List V} {z : Str} (hl : xs.length = z.cps.size) : Walk (ItzTS K a z) xs.length (fun H => SqT K H a xs) (YPair (fun i => xs[i]?) (fun i => (z.cps[i]?).map fun c => .str ⟨#[c]⟩)) where
  goes := fun i H hi h => ⟨xs, xs[i], z.cps[i]'(by omega), h, by simp [hi], by simp⟩
  stops := fun H h => ⟨xs, h, by omega⟩
  yields := fun i H x H' hi h ⟨T, y, c, e1, e2, e3, e4, e5⟩ => ⟨T, y, _, e1, e2, e3, e4 xs h, by show Option.map _ z.cps[i]? = _; rw [e5]; rfl⟩
end RM

set_option Elab.async false
set_option linter.all false
set_option maxRecDepth 100000
set_option maxHeartbeats 2000000
/-! heaps that keep; sequences of either kind -/
namespace RM
open PySem PySem.Spec
open PyProof.Rows
open L2
/-- a clause's turns: at the end `fin`; else one more, behind whose tests `wk` is done -/
def Turns (J : It) (g : TG) (tt : TT) (wk : L2.St → Hp → (Hp → Prop) → Prop) (σ0 : L2.St) (vs : List Nat) (W : Nat → Nat → Hp → Prop) (fin : Hp → Prop) : Prop :=
  ∀ i m H, W i m H → (J.stop i H ∧ fin H) ∨ (J.go i H ∧ ∃ N : Hp → Prop, (∀ H', N H' → ∃ m', m' < m ∧ W (i + 1) m' H') ∧
    ∀ x H', J.yld i H x H' → g x σ0 H' fun σ2 H2 => wipe σ2 vs = σ0 ∧ tt σ2 H2 fun b H3 => if b = true then wk σ2 H3 N else N H3)
theorem smT {K : PySem.W.Frag} {H H' : Hp} {a : Addr} {xs : List V} (e : Same H H') (h : SqT K H a xs) : SqT K H' a xs := by
  exact h.imp (Or.imp (e _ _) fun ⟨o, at_⟩ => ⟨o, e _ _ at_⟩) id
theorem smNew {H H1 : Hp} (e : Same H H1) {p : Addr} (h : H1 p = none) (o : HO) : Same H (upd H1 p o) := fun b u q => by rw [upd_ne (ne_of_none (e b u q) h)]; exact e b u q
theorem smNew1 {H : Hp} {p : Addr} (h : H p = none) (o : HO) : Same H (upd H p o) := smNew (Same.refl H) h o
/-- p is none of H's -/
theorem smOut {H H1 : Hp} (e : Same H H1) {p : Addr} (h : H p = none) (o : HO) : Same H (upd H1 p o) := fun b u q => by rw [upd_ne (ne_of_none q h)]; exact e b u q
/-- the tuples stay -/
def TS (K : PySem.W.Frag) (H H' : Hp) : Prop := ∀ a xs, SqT K H a xs → SqT K H' a xs
theorem TS.refl (K : PySem.W.Frag) (H : Hp) : TS K H H := fun _ _ h => h
theorem TS.trans {K : PySem.W.Frag} {H H1 H2 : Hp} (a : TS K H H1) (b : TS K H1 H2) : TS K H H2 := fun p xs h => b p xs (a p xs h)
theorem ts_sm {K : PySem.W.Frag} {H H' : Hp} (e : Same H H') : TS K H H' := fun _ _ h => smT e h
/-- what no tuple is may change -/
def NoTup : HO → Prop
  | .tup _ => False
  | .frz _ _ => False
  | _ => True
theorem ts_upd {K : PySem.W.Frag} {H : Hp} {p : Addr} {u : HO} (o : HO) (h : H p = some u) (n : NoTup u) : TS K H (upd H p o) := fun a xs q => by
  rcases q with (q | ⟨ob, q⟩) | q
  · exact .inl (.inl (by rw [upd_ne (fun z => by rw [z, h] at q; cases q; exact n)]; exact q))
  · exact .inl (.inr ⟨ob, by rw [upd_ne (fun z => by rw [z, h] at q; cases q; exact n)]; exact q⟩)
  · exact .inr q
/-! ### walks of pairs: what the library's Goes.. give, as a Turn -/
/-- a sequence to be read: a list or a tuple -/
def SqA (K : PySem.W.Frag) (H : Hp) (a : Addr) (xs : List V) : Prop := SqL K H a xs ∨ SqT K H a xs
theorem sqA_sm {K : PySem.W.Frag} {H H' : Hp} {a : Addr} {xs : List V} (e : Same H H') (h : SqA K H a xs) : SqA K H' a xs := by
  rcases h with h | h
  · exact .inl (e.seq h)
  · exact .inr (smT e h)
theorem seqA_of {K : PySem.W.Frag} {H0 H : Hp} {a : Addr} {xs : List V} {R : It → Hp → Prop} (h : SqA K H0 a xs) (e : Same H0 H) (q : ∀ J, Walk J xs.length (fun H' => Same H0 H') (YAt xs) → R J H) :
    SeqG K (.ref a) H R := by
  unfold SeqG
  rcases h with h | h
  · exact ⟨a, rfl, .inl ⟨xs, e.seq h, q _ (walk_list.mono (fun H' e => e.seq h) fun i H x H' _ _ y => y)⟩⟩
  · exact ⟨a, rfl, .inr ⟨xs, smT e h, q _ (walk_tup.mono (fun H' e => smT e h) fun i H x H' _ _ y => y)⟩⟩
theorem enumA_of {K : PySem.W.Frag} {H0 H : Hp} {a : Addr} {xs : List V} {R : It → Hp → Prop} (h : SqA K H0 a xs) (e : Same H0 H) (q : ∀ J, Walk J xs.length (fun H' => Same H0 H') (YPair (fun i => some (.int (i : Nat))) (fun i => xs[i]?)) → R J H) :
    EnumG K [.ref a] H R := by
  unfold EnumG
  rcases h with h | h
  · exact ⟨a, rfl, .inl ⟨xs, e.seq h, q _ (walk_enum.mono (fun H' e => e.seq h) fun i H x H' _ _ y => y)⟩⟩
  · exact ⟨a, rfl, .inr ⟨xs, smT e h, q _ (walk_enumT.mono (fun H' e => smT e h) fun i H x H' _ _ y => y)⟩⟩
/-- t + u -/
@[irreducible] def CatG (K : PySem.W.Frag) : R2 := rCatA K
theorem op_catG {X : Cx} : OpR X (binaryOp .Add) (CatG X.K) := by
  unfold CatG
  exact op_catA
theorem op_catG' {X : Cx} {K : PySem.W.Frag} (hK : X.K = K) : OpR X (binaryOp .Add) (CatG K) := by
  subst hK
  exact op_catG
theorem catA_of {K : PySem.W.Frag} {H : Hp} {a b : Addr} {xs ys : List V} {Q : VK} (ha : SqT K H a xs) (hb : SqT K H b ys) (hl : xs.length + ys.length ≤ sizeLine)
    (q : ∀ t H', Same H H' → SqT K H' t (xs ++ ys) → Q (.ref t) H') : CatG K (.ref a) (.ref b) H Q := by
  unfold CatG
  refine ⟨a, b, xs, ys, rfl, rfl, ha, hb, hl, ?_, ?_, ?_⟩
  · intro e
    subst e
    exact q b H (Same.refl H) (by simpa using hb)
  · intro _ e
    subst e
    exact q a H (Same.refl H) (by simpa using ha)
  · intro _ _ p hp
    exact q p _ (smNew1 hp _) (SqT.of upd_same)
end RM

set_option Elab.async false
set_option linter.all false
set_option maxRecDepth 100000
set_option maxHeartbeats 2000000
namespace RM
open PySem PySem.Spec PyProof.Rows L2
/-! ### data in the heap -/
section
variable {K : PySem.W.Frag} {H H' : Hp}
mutual
theorem Dp.keep (e : Same H H') : ∀ {v : V} {d : PyData}, Dp K H v d → Dp K H' v d
  | _, _, .non => .non
  | _, _, .bl b => .bl b
  | _, _, .int i => .int i
  | _, _, .str x => .str x
  | _, _, .lst h r => .lst (e.seq h) (DpAll.keep e r)
  | _, _, .tup h r => .tup (smT e h) (DpAll.keep e r)
theorem DpAll.keep (e : Same H H') : ∀ {vs : List V} {ds : List PyData}, DpAll K H vs ds → DpAll K H' vs ds
  | _, _, .nil => .nil
  | _, _, .cons h r => .cons (Dp.keep e h) (DpAll.keep e r)
end
theorem DpAll.len : ∀ {vs : List V} {ds : List PyData}, DpAll K H vs ds → vs.length = ds.length
  | _, _, .nil => rfl
  | _, _, .cons h r => congrArg (· + 1) (DpAll.len r)
theorem DpAll.get : ∀ {vs : List V} {ds : List PyData}, DpAll K H vs ds → ∀ {i : Nat} {d : PyData}, ds[i]? = some d → ∃ v, vs[i]? = some v ∧ Dp K H v d
  | _, _, .nil, i, d, e => by simp at e
  | _, _, .cons h r, 0, d, e => by
    have e' := Option.some.inj e
    subst e'
    exact ⟨_, rfl, h⟩
  | _, _, .cons h r, i + 1, d, e => DpAll.get r (i := i) (by simpa using e)
theorem DpAll.getV : ∀ {vs : List V} {ds : List PyData}, DpAll K H vs ds → ∀ {i : Nat} {v : V}, vs[i]? = some v → ∃ d, ds[i]? = some d ∧ Dp K H v d
  | _, _, .nil, i, d, e => by simp at e
  | _, _, .cons h r, 0, d, e => by
    have e' := Option.some.inj e
    subst e'
    exact ⟨_, rfl, h⟩
  | _, _, .cons h r, i + 1, d, e => DpAll.getV r (i := i) (by simpa using e)
theorem DpAll.snoc : ∀ {vs : List V} {ds : List PyData} {v : V} {d : PyData}, DpAll K H vs ds → Dp K H v d → DpAll K H (vs ++ [v]) (ds ++ [d])
  | _, _, _, _, .nil, h => .cons h .nil
  | _, _, _, _, .cons g r, h => .cons g (DpAll.snoc r h)
theorem DpAll.app : ∀ {vs us : List V} {ds es : List PyData}, DpAll K H vs ds → DpAll K H us es → DpAll K H (vs ++ us) (ds ++ es)
  | _, _, _, _, .nil, h => h
  | _, _, _, _, .cons g r, h => .cons g (DpAll.app r h)
theorem Dp.str_inv {v : V} {x : Str} (h : Dp K H v (.str x)) : v = .str x := by cases h; rfl
theorem Dp.int_inv {v : V} {i : Int} (h : Dp K H v (.int i)) : v = .int i := by cases h; rfl
theorem Dp.tup_inv {v : V} {ds : List PyData} (h : Dp K H v (.tuple ds)) : ∃ a xs, v = .ref a ∧ SqT K H a xs ∧ DpAll K H xs ds := by cases h with | tup h r => exact ⟨_, _, rfl, h, r⟩
theorem Dp.lst_inv {v : V} {ds : List PyData} (h : Dp K H v (.list ds)) : ∃ a xs, v = .ref a ∧ SqL K H a xs ∧ DpAll K H xs ds := by cases h with | lst h r => exact ⟨_, _, rfl, h, r⟩
theorem DpAll.cons_inv {vs : List V} {d : PyData} {ds : List PyData} (h : DpAll K H vs (d :: ds)) : ∃ v r, vs = v :: r ∧ Dp K H v d ∧ DpAll K H r ds := by cases h with | cons h r => exact ⟨_, _, rfl, h, r⟩
theorem DpAll.nil_inv {vs : List V} (h : DpAll K H vs []) : vs = [] := by cases h; rfl
end
/-- a sequence: a list or a tuple -/
def seqD (fl : Bool) (l : List PyData) : PyData := if fl then .list l else .tuple l
theorem seqD_inv {K : PySem.W.Frag} {H : Hp} {v : V} {fl : Bool} {ds : List PyData} (h : Dp K H v (seqD fl ds)) : ∃ a xs, v = .ref a ∧ (SqL K H a xs ∨ SqT K H a xs) ∧ DpAll K H xs ds := by
  cases fl with
  | true => obtain ⟨a, xs, e, h1, h2⟩ := Dp.lst_inv h; exact ⟨a, xs, e, .inl h1, h2⟩
  | false => obtain ⟨a, xs, e, h1, h2⟩ := Dp.tup_inv h; exact ⟨a, xs, e, .inr h1, h2⟩
/-! ### statements -/
inductive Stm where
  | read (v k : Str) | set (v : Str) (n : Int) | copy (v u : Str) | print (v : Str) | say (n : Int) | wait
  | ite (v : Str) (n : Int) (a b : List Stm) | same (v u : Str) (a b : List Stm) | rep (n : Int) (a : List Stm) | stop
namespace Stm
def word : Stm → Str
  | .read .. => "read" | .set .. => "set" | .copy .. => "copy" | .print .. => "print" | .say .. => "say" | .wait => "wait"
  | .ite .. => "if" | .same .. => "same" | .rep .. => "repeat" | .stop => "stop"
def form : Stm → Str
  | .read .. => "kk" | .set .. => "kv" | .copy .. => "kk" | .print .. => "k" | .say .. => "v" | .wait => ""
  | .ite .. => "kvbb" | .same .. => "kkbb" | .rep .. => "tb" | .stop => ""
def flats : Stm → List PyData
  | .read v k => [.str v, .str k] | .set v n => [.str v, .int n] | .copy v u => [.str v, .str u] | .print v => [.str v] | .say n => [.int n] | .wait => []
  | .ite v n _ _ => [.str v, .int n] | .same v u _ _ => [.str v, .str u] | .rep n _ => [.int n] | .stop => []
def bodies : Stm → List (List Stm)
  | .ite _ _ a b => [a, b] | .same _ _ a b => [a, b] | .rep _ a => [a]
  | _ => []
/-- the variables that it names -/
def names : Stm → List Str
  | .read v _ => [v] | .set v _ => [v] | .copy v u => [v, u] | .print v => [v] | .say _ => [] | .wait => []
  | .ite v _ _ _ => [v] | .same v u _ _ => [v, u] | .rep _ _ => [] | .stop => []
end Stm
mutual
def encS (fl : Bool) : Stm → PyData
  | .read v k => .tuple [.str "read", .str v, .str k]
  | .set v n => .tuple [.str "set", .str v, .int n]
  | .copy v u => .tuple [.str "copy", .str v, .str u]
  | .print v => .tuple [.str "print", .str v]
  | .say n => .tuple [.str "say", .int n]
  | .wait => .tuple [.str "wait"]
  | .ite v n a b => .tuple [.str "if", .str v, .int n, seqD fl (encB fl a), seqD fl (encB fl b)]
  | .same v u a b => .tuple [.str "same", .str v, .str u, seqD fl (encB fl a), seqD fl (encB fl b)]
  | .rep n a => .tuple [.str "repeat", .int n, seqD fl (encB fl a)]
  | .stop => .tuple [.str "stop"]
def encB (fl : Bool) : List Stm → List PyData
  | [] => []
  | s :: r => encS fl s :: encB fl r
end
theorem encB_map (fl : Bool) : ∀ l : List Stm, encB fl l = l.map (encS fl)
  | [] => rfl
  | s :: r => by rw [encB, List.map_cons, encB_map fl r]
theorem encS_eq (fl : Bool) (s : Stm) : encS fl s = .tuple (.str s.word :: (s.flats ++ s.bodies.map fun b => seqD fl (encB fl b))) := by
  cases s <;> simp only [encS] <;> rfl
/-! ### words, values -/
def isValue (n : Int) : Bool := decide (-99 ≤ n) && decide (n ≤ 99)
def isLet (c : Nat) : Bool := decide (c ∈ ("abcdefghijklmnopqrstuvwxyz" : Str).cps.toList)
def isWord (z : Str) : Bool := decide (1 ≤ z.length) && decide (z.length ≤ 6) && z.cps.toList.all isLet
theorem isWord_len {z : Str} (h : isWord z = true) : z.length ≤ 6 := by
  unfold isWord at h
  rw [Bool.and_eq_true, Bool.and_eq_true] at h
  exact of_decide_eq_true h.1.2
theorem word_size {z : Str} (h : isWord z = true) : z.length ≤ sizeLine := Nat.le_of_lt (small1000 (by have := isWord_len h; omega))
/-- what stands in a statement itself is right -/
def wl : Stm → Bool
  | .read v k => isWord v && isWord k | .set v n => isWord v && isValue n | .copy v u => isWord v && isWord u | .print v => isWord v | .say n => isValue n | .wait => true
  | .ite v n _ _ => isWord v && isValue n | .same v u _ _ => isWord v && isWord u | .rep n _ => decide (0 ≤ n) && decide (n ≤ 3) | .stop => true
mutual
def wS : Stm → Bool
  | .read v k => isWord v && isWord k | .set v n => isWord v && isValue n | .copy v u => isWord v && isWord u | .print v => isWord v | .say n => isValue n | .wait => true
  | .ite v n a b => isWord v && isValue n && (wB a && wB b) | .same v u a b => isWord v && isWord u && (wB a && wB b) | .rep n a => (decide (0 ≤ n) && decide (n ≤ 3)) && wB a | .stop => true
def wB : List Stm → Bool
  | [] => true
  | s :: r => wS s && wB r
end
theorem wl_of {s : Stm} (h : wS s = true) : wl s = true := by
  cases s <;> simp only [wS, wl] at h ⊢ <;> first | exact h | exact (Bool.and_eq_true_iff.mp h).1
theorem wB_of {s : Stm} (h : wS s = true) : ∀ b ∈ s.bodies, wB b = true := by
  cases s <;> simp only [wS, Stm.bodies, List.mem_cons, List.not_mem_nil, or_false, Bool.and_eq_true, false_implies, implies_true] at h ⊢
  · rintro b (rfl | rfl)
    · exact h.2.1
    · exact h.2.2
  · rintro b (rfl | rfl)
    · exact h.2.1
    · exact h.2.2
  · rintro b rfl
    exact h.2
theorem wB_all : ∀ {l : List Stm}, wB l = true → ∀ s ∈ l, wS s = true
  | [], _, s, h => by simp at h
  | t :: r, w, s, h => by
    rw [wB, Bool.and_eq_true] at w
    rcases List.mem_cons.mp h with rfl | h
    · exact w.1
    · exact wB_all w.2 s h
theorem isValue_rep {n : Int} (h : (decide (0 ≤ n) && decide (n ≤ 3)) = true) : isValue n = true := by
  rw [Bool.and_eq_true] at h
  have h1 := of_decide_eq_true h.1
  have h2 := of_decide_eq_true h.2
  unfold isValue
  rw [decide_eq_true (by omega), decide_eq_true (by omega)]
  rfl
/-! ### numbers of a statement -/
mutual
/-- how deep bodies are nested in a statement, a body -/
def dS : Stm → Nat
  | .ite _ _ a b => max (dB a) (dB b)
  | .same _ _ a b => max (dB a) (dB b)
  | .rep _ a => dB a
  | _ => 0
def dB : List Stm → Nat
  | [] => 1
  | s :: r => max (dS s + 1) (dB r)
end
mutual
/-- how many statements, inner ones counted -/
def cS : Stm → Nat
  | .ite _ _ a b => 1 + cB a + cB b
  | .same _ _ a b => 1 + cB a + cB b
  | .rep _ a => 1 + cB a
  | _ => 1
def cB : List Stm → Nat
  | [] => 0
  | s :: r => cS s + cB r
end
mutual
/-- the statements of a body with their paths, in the order of the text -/
def aS (p : List Int) : Stm → List (List Int × Stm)
  | .ite v n a b => (p, .ite v n a b) :: (aB (p ++ [0]) 0 a ++ aB (p ++ [1]) 0 b)
  | .same v u a b => (p, .same v u a b) :: (aB (p ++ [0]) 0 a ++ aB (p ++ [1]) 0 b)
  | .rep n a => (p, .rep n a) :: aB (p ++ [0]) 0 a
  | s => [(p, s)]
def aB (p : List Int) (i : Nat) : List Stm → List (List Int × Stm)
  | [] => []
  | s :: r => aS (p ++ [(i : Int)]) s ++ aB p (i + 1) r
end
theorem dB_one : ∀ l : List Stm, 1 ≤ dB l
  | [] => Nat.le_refl 1
  | s :: r => by rw [dB]; exact Nat.le_trans (dB_one r) (Nat.le_max_right _ _)
theorem dB_mem : ∀ {l : List Stm} {s : Stm}, s ∈ l → dS s + 1 ≤ dB l
  | [], s, h => by simp at h
  | t :: r, s, h => by
    rw [dB]
    rcases List.mem_cons.mp h with rfl | h
    · exact Nat.le_max_left _ _
    · exact Nat.le_trans (dB_mem h) (Nat.le_max_right _ _)
theorem dS_mem {s : Stm} {b : List Stm} (h : b ∈ s.bodies) : dB b ≤ dS s := by
  cases s <;> simp only [Stm.bodies, List.mem_cons, List.not_mem_nil, or_false] at h <;> simp only [dS]
  · rcases h with rfl | rfl
    · exact Nat.le_max_left _ _
    · exact Nat.le_max_right _ _
  · rcases h with rfl | rfl
    · exact Nat.le_max_left _ _
    · exact Nat.le_max_right _ _
  · rw [h]; exact Nat.le_refl _
theorem cS_pos (s : Stm) : 1 ≤ cS s := by cases s <;> simp only [cS] <;> omega
theorem cB_mem : ∀ {l : List Stm} {s : Stm}, s ∈ l → cS s ≤ cB l
  | [], s, h => by simp at h
  | t :: r, s, h => by
    rw [cB]
    rcases List.mem_cons.mp h with rfl | h
    · omega
    · have := cB_mem h; omega
theorem cS_mem {s : Stm} {b : List Stm} (h : b ∈ s.bodies) : cB b + 1 ≤ cS s := by
  cases s <;> simp only [Stm.bodies, List.mem_cons, List.not_mem_nil, or_false] at h <;> simp only [cS]
  · rcases h with rfl | rfl <;> omega
  · rcases h with rfl | rfl <;> omega
  · rw [h]; omega
theorem cB_len : ∀ l : List Stm, l.length ≤ cB l
  | [] => Nat.le_refl 0
  | s :: r => by
    have := cB_len r
    have := cS_pos s
    rw [cB, List.length_cons]
    omega
/-! ### kinds -/
theorem tyT {K : PySem.W.Frag} {H : Hp} {a : Addr} {xs : List V} (h : SqT K H a xs) : TyX K H (.ref a) (.type "tuple") := by
  rcases h with (h | ⟨o, h⟩) | ⟨o, its, n, h, hc, _⟩
  · exact .base (.tup h)
  · exact .fTuple h
  · exact .kTuple h hc
theorem tyL {K : PySem.W.Frag} {H : Hp} {a : Addr} {xs : List V} (h : SqL K H a xs) : TyX K H (.ref a) (.type "list") := by
  rcases h with (h | ⟨o, h⟩) | ⟨o, its, n, h, hc, _⟩
  · exact .base (.lst h)
  · exact .base (.frz h)
  · exact .kList h hc
/-! ### cuts -/
theorem cut_tail (x : V) (xs : List V) : cutV (x :: xs) (some 1) none = xs := by
  unfold cutV
  have e1 : HT.sIx (x :: xs).length 0 (some 1) = 1 := by
    have := HT.sIx_nat (x :: xs).length 0 1
    rw [show (some 1 : Option Int) = some ((1 : Nat) : Int) from rfl, this, List.length_cons]
    omega
  rw [e1, HT.sIx_none, List.length_cons]
  show (xs.drop 0).take (xs.length + 1 - 1) = xs
  rw [List.drop_zero, Nat.add_sub_cancel, List.take_length]
theorem cut_not {x : V} {xs : List V} : ¬ (HT.sIx (x :: xs).length 0 (some 1) = 0 ∧ HT.sIx (x :: xs).length (x :: xs).length none = (x :: xs).length) := by
  intro h
  have := HT.sIx_nat (x :: xs).length 0 1
  rw [show (some 1 : Option Int) = some ((1 : Nat) : Int) from rfl, this, List.length_cons] at h
  omega
/-! ### comprehensions over a walk: what is kept of each item -/
theorem paired_mono {α β : Type} {F G : α → β → Prop} {l : List α} {m : List β} (p : Paired F l m) (h : ∀ a b, F a b → G a b) : Paired G l m := L2.Paired.mapP p h
/-- a new item goes to the list at D -/
abbrev addsL (D : Addr) (te : TE) : L2.St → Hp → (Hp → Prop) → Prop := fun σ H N => te σ H fun y H1 => ∃ acc, H1 D = some (.lst acc) ∧ acc.length < sizeLine ∧ N (upd H1 D (.lst (acc ++ [y])))
theorem lc_opt {α : Type} {J : It} {n : Nat} {G : Hp → Prop} {Y : Nat → Hp → V → Hp → Prop} (wk : Walk J n G Y) {g : TG} {tt : TT} {te : TE} {vs : List Nat} {σ : L2.St} {H1 : Hp} {D : Addr} {Qd : Hp → Prop}
    (R : α → V → Hp → Prop) (o : Nat → Option α) (hD : H1 D = none) (hn : n < sizeLine) (hG : ∀ H, Same H1 H → G H)
    (hR : ∀ a y H H', R a y H → Same H H' → R a y H') (hRD : ∀ a y H l l', R a y H → H D = some (.lst l) → R a y (upd H D (.lst l')))
    (hs : ∀ i x H H' (N : Hp → Prop), i < n → Same H1 H → Y i H x H' →
      (∀ y H4 a, o i = some a → Same H H4 → R a y H4 → ∃ acc, H4 D = some (.lst acc) ∧ acc.length < sizeLine ∧ N (upd H4 D (.lst (acc ++ [y])))) → (o i = none → ∀ H3, Same H H3 → N H3) →
      g x (wipe σ vs) H' fun σ2 H2 => wipe σ2 vs = wipe σ vs ∧ tt σ2 H2 fun b H3 => if b = true then addsL D te σ2 H3 N else N H3)
    (hd : ∀ H ys, Same H1 H → H D = some (.lst ys) → Paired (fun y a => R a y H) ys ((List.range n).filterMap o) → Qd H) :
    ∃ W : Nat → Nat → Hp → Prop, (∃ m, W 0 m (upd H1 D (.lst []))) ∧ Turns J g tt (addsL D te) (wipe σ vs) vs W Qd := by
  have len : ∀ i, ((List.range i).filterMap o).length ≤ i := fun i => Nat.le_trans (List.length_filterMap_le ..) (by simp)
  refine lc_it wk (fun i H => i ≤ n ∧ Same H1 H ∧ ∃ acc, H D = some (.lst acc) ∧ Paired (fun y a => R a y H) acc ((List.range i).filterMap o)) ⟨Nat.zero_le _, smNew1 hD _, [], upd_same, .nil⟩ (fun i H _ h => hG H h.2.1) ?_ ?_
  · rintro i x H H' hi ⟨_, s1, acc, hacc, p⟩ y
    refine hs i x H H' _ hi s1 y (fun y H4 a ha s4 r => ⟨acc, s4 _ _ hacc, ?_, hi, ?_, acc ++ [y], upd_same, ?_⟩) (fun ha H3 s3 => ⟨hi, fun b u q => s3 _ _ (s1 _ _ q), acc, s3 _ _ hacc, ?_⟩)
    · have := p.length
      have := len i
      omega
    · intro b u q
      rw [upd_ne (ne_of_none q hD)]
      exact s4 _ _ (s1 _ _ q)
    · rw [List.range_succ, List.filterMap_append, List.filterMap_cons, ha]
      refine Paired.snoc (paired_mono p fun y' a' r' => ?_) ?_
      · exact hRD _ _ _ _ _ (hR _ _ _ _ r' s4) (s4 _ _ hacc)
      · exact hRD _ _ _ _ _ r (s4 _ _ hacc)
    · rw [List.range_succ, List.filterMap_append, List.filterMap_cons, ha]
      show Paired _ acc (_ ++ [])
      rw [List.append_nil]
      exact paired_mono p fun y' a' r' => hR _ _ _ _ r' s3
  · rintro H ⟨_, s1, acc, hacc, p⟩
    exact hd H acc s1 hacc p
theorem paired_const {α β : Type} {v : α} : ∀ {ys : List α} {l : List β}, Paired (fun y _ => y = v) ys l → ys = List.replicate l.length v
  | _, _, .nil => rfl
  | _, _, .cons h t => by rw [h, paired_const t]; rfl
theorem range_some {α : Type} (f : Nat → α) (n : Nat) : (List.range n).filterMap (fun i => some (f i)) = (List.range n).map f := by
  induction n with
  | zero => rfl
  | succ n ih => rw [List.range_succ, List.filterMap_append, List.map_append, ih]; rfl
theorem rep_bl (n : Nat) : List.replicate n (V.bl true) = (List.replicate n true).map V.bl := (List.map_replicate ..).symm
theorem all_rep (n : Nat) : (List.replicate n true).all id = true := by
  rw [List.all_eq_true]
  intro x hx
  rw [(List.mem_replicate.mp hx).2]
  rfl
/-! ### data without lists -/
mutual
def noL : PyData → Bool
  | .list _ => false
  | .tuple ds => noLs ds
  | .dict _ => false
  | _ => true
def noLs : List PyData → Bool
  | [] => true
  | d :: r => noL d && noLs r
end
section
variable {K : PySem.W.Frag} {H H' : Hp}
mutual
theorem dp_ts (e : TS K H H') : ∀ {v : V} {d : PyData}, Dp K H v d → noL d = true → Dp K H' v d
  | _, _, .non, _ => .non
  | _, _, .bl b, _ => .bl b
  | _, _, .int i, _ => .int i
  | _, _, .str x, _ => .str x
  | _, _, .lst _ _, n => by simp [noL] at n
  | _, _, .tup h r, n => .tup (e _ _ h) (dps_ts e r (by simpa [noL] using n))
theorem dps_ts (e : TS K H H') : ∀ {vs : List V} {ds : List PyData}, DpAll K H vs ds → noLs ds = true → DpAll K H' vs ds
  | _, _, .nil, _ => .nil
  | _, _, .cons h r, n => by
    rw [noLs, Bool.and_eq_true] at n
    exact .cons (dp_ts e h n.1) (dps_ts e r n.2)
end
end
mutual
theorem noL_encS : ∀ s : Stm, noL (encS false s) = true
  | .read v k => rfl
  | .set v n => rfl
  | .copy v u => rfl
  | .print v => rfl
  | .say n => rfl
  | .wait => rfl
  | .stop => rfl
  | .ite v n a b => by
    have h1 := noL_encB a
    have h2 := noL_encB b
    simp only [encS, seqD, Bool.false_eq_true, if_false, noL, noLs, h1, h2, Bool.and_self]
  | .same v u a b => by
    have h1 := noL_encB a
    have h2 := noL_encB b
    simp only [encS, seqD, Bool.false_eq_true, if_false, noL, noLs, h1, h2, Bool.and_self]
  | .rep n a => by
    have h1 := noL_encB a
    simp only [encS, seqD, Bool.false_eq_true, if_false, noL, noLs, h1, Bool.and_self]
theorem noL_encB : ∀ l : List Stm, noLs (encB false l) = true
  | [] => rfl
  | s :: r => by
    have h1 := noL_encS s
    have h2 := noL_encB r
    rw [encB, noLs, h1, h2]
    rfl
end
theorem noLs_get : ∀ {ds : List PyData}, noLs ds = true → ∀ d ∈ ds, noL d = true
  | [], _, d, h => by simp at h
  | e :: r, n, d, h => by
    rw [noLs, Bool.and_eq_true] at n
    rcases List.mem_cons.mp h with rfl | h
    · exact n.1
    · exact noLs_get n.2 d h
theorem noLs_of : ∀ {ds : List PyData}, (∀ d ∈ ds, noL d = true) → noLs ds = true
  | [], _ => rfl
  | e :: r, h => by rw [noLs, h e List.mem_cons_self, noLs_of fun d hd => h d (List.mem_cons_of_mem _ hd)]; rfl
theorem noLs_app : ∀ {ds es : List PyData}, noLs ds = true → noLs es = true → noLs (ds ++ es) = true
  | [], _, _, h => h
  | e :: r, es, n, h => by
    rw [noLs, Bool.and_eq_true] at n
    rw [List.cons_append, noLs, n.1, noLs_app n.2 h]
    rfl
/-- a tuple of ints -/
def pathD (p : List Int) : PyData := .tuple (p.map .int)
theorem noL_path (p : List Int) : noL (pathD p) = true := by
  show noLs (p.map .int) = true
  exact noLs_of fun d h => by
    obtain ⟨i, _, rfl⟩ := List.mem_map.mp h
    rfl
theorem ints_dp {K : PySem.W.Frag} {H : Hp} : ∀ p : List Int, DpAll K H (p.map V.int) (p.map .int)
  | [] => .nil
  | i :: r => .cons (.int i) (ints_dp r)
theorem ints_inv {K : PySem.W.Frag} {H : Hp} : ∀ {p : List Int} {vs : List V}, DpAll K H vs (p.map .int) → vs = p.map V.int
  | [], _, h => DpAll.nil_inv h
  | i :: r, _, h => by
    obtain ⟨v, q, rfl, h1, h2⟩ := DpAll.cons_inv h
    rw [Dp.int_inv h1, ints_inv h2]
    rfl
theorem path_dp {K : PySem.W.Frag} {H : Hp} {a : Addr} {p : List Int} (h : SqT K H a (p.map V.int)) : Dp K H (.ref a) (pathD p) := .tup h (ints_dp p)
theorem path_inv {K : PySem.W.Frag} {H : Hp} {v : V} {p : List Int} (h : Dp K H v (pathD p)) : ∃ a, v = .ref a ∧ SqT K H a (p.map V.int) := by
  obtain ⟨a, xs, rfl, h1, h2⟩ := Dp.tup_inv h
  rw [ints_inv h2] at h1
  exact ⟨a, rfl, h1⟩
/-! ### the signs of a statement's items -/
def Stm.signs : Stm → List Nat
  | .read .. => [107, 107] | .set .. => [107, 118] | .copy .. => [107, 107] | .print .. => [107] | .say .. => [118] | .wait => []
  | .ite .. => [107, 118, 98, 98] | .same .. => [107, 107, 98, 98] | .rep .. => [116, 98] | .stop => []
theorem signs_eq (s : Stm) : s.form.cps.toList = s.signs := by cases s <;> (simp only [Stm.form, Stm.signs]; decide +kernel)
theorem sign_at {s : Stm} {i c : Nat} (h : s.form.cps[i]? = some c) : s.signs[i]? = some c := by rw [← signs_eq]; simpa using h
/-- one sign of a text beside another -/
theorem sgn (c x : Nat) : decide (V.str ⟨#[c]⟩ = V.str ⟨#[x]⟩) = decide (c = x) := by
  by_cases h : c = x
  · rw [h, decide_eq_true rfl, decide_eq_true rfl]
  · rw [decide_eq_false h, decide_eq_false]
    intro e
    injection e with e1
    injection e1 with e2
    exact h (by simpa using e2)
theorem str_k : ("k" : Str) = ⟨#[107]⟩ := by decide +kernel
theorem str_b : ("b" : Str) = ⟨#[98]⟩ := by decide +kernel
/-- the items that are bodies, by their signs -/
theorem bodies_sel (s : Stm) (f : List Stm → PyData) :
    (List.range (s.flats ++ s.bodies.map f).length).filterMap (fun i => if s.signs[i]? = some 98 then (s.flats ++ s.bodies.map f)[i]? else none) = s.bodies.map f := by
  cases s <;> rfl
theorem names_sel (s : Stm) (f : List Stm → PyData) (h : ∀ v k, s ≠ .read v k) :
    (List.range (s.flats ++ s.bodies.map f).length).filterMap (fun i => if s.signs[i]? = some 107 then (s.flats ++ s.bodies.map f)[i]? else none) = s.names.map .str := by
  cases s <;> first | rfl | exact absurd rfl (h _ _)
theorem some_range {α : Type} : ∀ (l : List α), (List.range l.length).filterMap (fun i => l[i]?) = l := by
  intro l
  have e : ∀ n, n ≤ l.length → (List.range n).filterMap (fun i => l[i]?) = l.take n := by
    intro n
    induction n with
    | zero => intro _; simp
    | succ n ih =>
      intro hn
      rw [List.range_succ, List.filterMap_append, ih (by omega), List.take_add_one]
      have : l[n]? = some l[n] := List.getElem?_eq_getElem (by omega)
      simp [this]
  rw [e l.length (Nat.le_refl _), List.take_length]
theorem sign98 {s : Stm} {i : Nat} (h : s.signs[i]? = some 98) : ∃ b ∈ s.bodies, ∀ f : List Stm → PyData, (s.flats ++ s.bodies.map f)[i]? = some (f b) := by
  cases s with
  | ite v n a b =>
    match i, h with
    | 2, _ => exact ⟨a, by simp [Stm.bodies], fun f => rfl⟩
    | 3, _ => exact ⟨b, by simp [Stm.bodies], fun f => rfl⟩
    | 0, h => simp [Stm.signs] at h
    | 1, h => simp [Stm.signs] at h
    | n + 4, h => simp [Stm.signs] at h
  | same v n a b =>
    match i, h with
    | 2, _ => exact ⟨a, by simp [Stm.bodies], fun f => rfl⟩
    | 3, _ => exact ⟨b, by simp [Stm.bodies], fun f => rfl⟩
    | 0, h => simp [Stm.signs] at h
    | 1, h => simp [Stm.signs] at h
    | n + 4, h => simp [Stm.signs] at h
  | rep n a =>
    match i, h with
    | 1, _ => exact ⟨a, by simp [Stm.bodies], fun f => rfl⟩
    | 0, h => simp [Stm.signs] at h
    | n + 2, h => simp [Stm.signs] at h
  | read v k => match i, h with
    | 0, h => simp [Stm.signs] at h
    | 1, h => simp [Stm.signs] at h
    | n + 2, h => simp [Stm.signs] at h
  | set v k => match i, h with
    | 0, h => simp [Stm.signs] at h
    | 1, h => simp [Stm.signs] at h
    | n + 2, h => simp [Stm.signs] at h
  | copy v k => match i, h with
    | 0, h => simp [Stm.signs] at h
    | 1, h => simp [Stm.signs] at h
    | n + 2, h => simp [Stm.signs] at h
  | print v => match i, h with
    | 0, h => simp [Stm.signs] at h
    | n + 1, h => simp [Stm.signs] at h
  | say v => match i, h with
    | 0, h => simp [Stm.signs] at h
    | n + 1, h => simp [Stm.signs] at h
  | wait => simp [Stm.signs] at h
  | stop => simp [Stm.signs] at h
theorem signFlat {s : Stm} {i c : Nat} (h : s.signs[i]? = some c) (n : c ≠ 98) : ∃ d, noL d = true ∧ ∀ f : List Stm → PyData, (s.flats ++ s.bodies.map f)[i]? = some d := by
  cases s with
  | ite v m a b =>
    match i, h with
    | 0, _ => exact ⟨.str v, rfl, fun f => rfl⟩
    | 1, _ => exact ⟨.int m, rfl, fun f => rfl⟩
    | 2, h => exact absurd (Option.some.inj h).symm n
    | 3, h => exact absurd (Option.some.inj h).symm n
    | k + 4, h => simp [Stm.signs] at h
  | same v m a b =>
    match i, h with
    | 0, _ => exact ⟨.str v, rfl, fun f => rfl⟩
    | 1, _ => exact ⟨.str m, rfl, fun f => rfl⟩
    | 2, h => exact absurd (Option.some.inj h).symm n
    | 3, h => exact absurd (Option.some.inj h).symm n
    | k + 4, h => simp [Stm.signs] at h
  | rep m a =>
    match i, h with
    | 0, _ => exact ⟨.int m, rfl, fun f => rfl⟩
    | 1, h => exact absurd (Option.some.inj h).symm n
    | k + 2, h => simp [Stm.signs] at h
  | read v k => match i, h with
    | 0, h => exact ⟨.str v, rfl, fun f => rfl⟩
    | 1, h => exact ⟨.str k, rfl, fun f => rfl⟩
    | n + 2, h => simp [Stm.signs] at h
  | set v k => match i, h with
    | 0, h => exact ⟨.str v, rfl, fun f => rfl⟩
    | 1, h => exact ⟨.int k, rfl, fun f => rfl⟩
    | n + 2, h => simp [Stm.signs] at h
  | copy v k => match i, h with
    | 0, h => exact ⟨.str v, rfl, fun f => rfl⟩
    | 1, h => exact ⟨.str k, rfl, fun f => rfl⟩
    | n + 2, h => simp [Stm.signs] at h
  | print v => match i, h with
    | 0, h => exact ⟨.str v, rfl, fun f => rfl⟩
    | n + 1, h => simp [Stm.signs] at h
  | say v => match i, h with
    | 0, h => exact ⟨.int v, rfl, fun f => rfl⟩
    | n + 1, h => simp [Stm.signs] at h
  | wait => simp [Stm.signs] at h
  | stop => simp [Stm.signs] at h
theorem items_len (s : Stm) (f : List Stm → PyData) : (s.flats ++ s.bodies.map f).length = s.signs.length := by cases s <;> rfl
/-! ### paths -/
def aBs (q : List Int) : Nat → List (List Stm) → List (List Int × Stm)
  | _, [] => []
  | j, b :: r => aB (q ++ [(j : Int)]) 0 b ++ aBs q (j + 1) r
theorem aS_eq (q : List Int) (s : Stm) : aS q s = (q, s) :: aBs q 0 s.bodies := by
  cases s <;> simp only [aS, Stm.bodies, aBs, List.append_nil] <;> rfl
theorem aB_app (p : List Int) : ∀ (l m : List Stm) (k : Nat), aB p k (l ++ m) = aB p k l ++ aB p (k + l.length) m
  | [], m, k => rfl
  | s :: r, m, k => by
    rw [List.cons_append, aB, aB, aB_app p r m (k + 1), List.append_assoc, List.length_cons]
    rw [show k + 1 + r.length = k + (r.length + 1) by omega]
theorem aBs_app (q : List Int) : ∀ (l m : List (List Stm)) (k : Nat), aBs q k (l ++ m) = aBs q k l ++ aBs q (k + l.length) m
  | [], m, k => rfl
  | s :: r, m, k => by
    rw [List.cons_append, aBs, aBs, aBs_app q r m (k + 1), List.append_assoc, List.length_cons]
    rw [show k + 1 + r.length = k + (r.length + 1) by omega]
theorem take_more {α : Type} {l : List α} {i : Nat} {x : α} (h : l[i]? = some x) : l.take (i + 1) = l.take i ++ [x] := by
  rw [List.take_add_one, h]
  rfl
theorem len_take {α : Type} {l : List α} {i : Nat} {x : α} (h : l[i]? = some x) : (l.take i).length = i := by
  have := (List.getElem?_eq_some_iff.mp h).1
  rw [List.length_take]
  omega
theorem aB_take {p : List Int} {l : List Stm} {i : Nat} {s : Stm} (h : l[i]? = some s) : aB p 0 (l.take (i + 1)) = aB p 0 (l.take i) ++ aS (p ++ [(i : Int)]) s := by
  rw [take_more h, aB_app, len_take h]
  show _ ++ aB p (0 + i) [s] = _
  rw [Nat.zero_add, aB, aB, List.append_nil]
theorem aBs_take {q : List Int} {l : List (List Stm)} {i : Nat} {b : List Stm} (h : l[i]? = some b) : aBs q 0 (l.take (i + 1)) = aBs q 0 (l.take i) ++ aB (q ++ [(i : Int)]) 0 b := by
  rw [take_more h, aBs_app, len_take h]
  show _ ++ aBs q (0 + i) [b] = _
  rw [Nat.zero_add, aBs, aBs, List.append_nil]
mutual
theorem aS_len : ∀ (p : List Int) (s : Stm), (aS p s).length = cS s
  | p, .ite v n a b => by simp only [aS, cS, List.length_cons, List.length_append, aB_len]; omega
  | p, .same v n a b => by simp only [aS, cS, List.length_cons, List.length_append, aB_len]; omega
  | p, .rep n a => by simp only [aS, cS, List.length_cons, aB_len]; omega
  | p, .read v k => rfl
  | p, .set v k => rfl
  | p, .copy v k => rfl
  | p, .print v => rfl
  | p, .say v => rfl
  | p, .wait => rfl
  | p, .stop => rfl
theorem aB_len : ∀ (p : List Int) (k : Nat) (l : List Stm), (aB p k l).length = cB l
  | p, k, [] => rfl
  | p, k, s :: r => by rw [aB, cB, List.length_append, aS_len, aB_len]
end
/-! ### depths -/
def dBs : List (List Stm) → Nat
  | [] => 0
  | b :: r => max (dB b) (dBs r)
theorem dS_eq (s : Stm) : dS s = dBs s.bodies := by cases s <;> simp [dS, Stm.bodies, dBs]
theorem dBs_snoc : ∀ (l : List (List Stm)) (b : List Stm), dBs (l ++ [b]) = max (dBs l) (dB b)
  | [], b => by simp [dBs]
  | c :: r, b => by rw [List.cons_append, dBs, dBs, dBs_snoc r b, Nat.max_assoc]
theorem dB_snoc : ∀ (l : List Stm) (s : Stm), dB (l ++ [s]) = max (dB l) (dS s + 1)
  | [], s => by simp only [List.nil_append, dB]; omega
  | c :: r, s => by rw [List.cons_append, dB, dB, dB_snoc r s, Nat.max_assoc]
end RM

set_option Elab.async false
set_option linter.all false
set_option maxRecDepth 100000
set_option maxHeartbeats 2000000
/-! what == reads of a program's data -/
namespace RM
open PySem PySem.Spec PyProof.Rows L2
theorem noL_tuple {ds : List PyData} (h : noLs ds = true) : noL (.tuple ds) = true := h
theorem let_lt {c : Nat} (h : isLet c = true) : c < 128 := by
  have a : ∀ c ∈ ("abcdefghijklmnopqrstuvwxyz" : Str).cps.toList, c < 128 := by decide +kernel
  exact a c (of_decide_eq_true h)
theorem word_ok {z : Str} (h : isWord z = true) : PyData.strOk z = true := by
  unfold isWord at h
  rw [Bool.and_eq_true] at h
  unfold PyData.strOk
  rw [Array.all_eq_true]
  intro i hi
  have := List.all_eq_true.mp h.2 (z.cps[i]) (by simp)
  exact decide_eq_true (Nat.lt_trans (let_lt this) (by decide))
theorem lay_seq {fl : Bool} {ds : List PyData} (h : PyData.canLayAll0 ds = true) : (seqD fl ds).canLay0 = true := by
  cases fl <;> exact h
theorem dep_seq {fl : Bool} {ds : List PyData} : (seqD fl ds).depth = PyData.depthAll ds + 1 := by
  cases fl <;> simp only [seqD, PyData.depth] <;> rfl
theorem ok_words : ∀ z ∈ (["read", "set", "copy", "print", "say", "wait", "if", "same", "repeat", "stop"] : List Str), PyData.strOk z = true := by decide +kernel
mutual
theorem lay_encS (fl : Bool) : ∀ s : Stm, wS s = true → (encS fl s).canLay0 = true
  | .read v k, h => by
    simp only [wS, Bool.and_eq_true] at h
    simp only [encS, PyData.canLay0, PyData.canLayAll0, word_ok h.1, word_ok h.2, ok_words "read" (by decide), Bool.and_self]
  | .set v n, h => by
    simp only [wS, Bool.and_eq_true] at h
    simp only [encS, PyData.canLay0, PyData.canLayAll0, word_ok h.1, ok_words "set" (by decide), Bool.and_self]
  | .copy v u, h => by
    simp only [wS, Bool.and_eq_true] at h
    simp only [encS, PyData.canLay0, PyData.canLayAll0, word_ok h.1, word_ok h.2, ok_words "copy" (by decide), Bool.and_self]
  | .print v, h => by
    simp only [wS] at h
    simp only [encS, PyData.canLay0, PyData.canLayAll0, word_ok h, ok_words "print" (by decide), Bool.and_self]
  | .say n, h => by
    simp only [encS, PyData.canLay0, PyData.canLayAll0, ok_words "say" (by decide), Bool.and_self]
  | .wait, h => by
    simp only [encS, PyData.canLay0, PyData.canLayAll0, ok_words "wait" (by decide), Bool.and_self]
  | .stop, h => by
    simp only [encS, PyData.canLay0, PyData.canLayAll0, ok_words "stop" (by decide), Bool.and_self]
  | .ite v n a b, h => by
    simp only [wS, Bool.and_eq_true] at h
    simp only [encS, PyData.canLay0, PyData.canLayAll0, word_ok h.1.1, lay_seq (lay_encB fl a h.2.1), lay_seq (lay_encB fl b h.2.2), ok_words "if" (by decide), Bool.and_self]
  | .same v u a b, h => by
    simp only [wS, Bool.and_eq_true] at h
    simp only [encS, PyData.canLay0, PyData.canLayAll0, word_ok h.1.1, word_ok h.1.2, lay_seq (lay_encB fl a h.2.1), lay_seq (lay_encB fl b h.2.2), ok_words "same" (by decide), Bool.and_self]
  | .rep n a, h => by
    simp only [wS, Bool.and_eq_true] at h
    simp only [encS, PyData.canLay0, PyData.canLayAll0, lay_seq (lay_encB fl a h.2), ok_words "repeat" (by decide), Bool.and_self]
theorem lay_encB (fl : Bool) : ∀ l : List Stm, wB l = true → PyData.canLayAll0 (encB fl l) = true
  | [], _ => by simp only [encB, PyData.canLayAll0]
  | s :: r, h => by
    simp only [wB, Bool.and_eq_true] at h
    simp only [encB, PyData.canLayAll0, lay_encS fl s h.1, lay_encB fl r h.2, Bool.and_self]
end
mutual
theorem dep_encS (fl : Bool) : ∀ s : Stm, (encS fl s).depth ≤ 2 * dS s + 1
  | .read v k => by simp [encS, PyData.depth, PyData.depthAll]
  | .set v n => by simp [encS, PyData.depth, PyData.depthAll]
  | .copy v u => by simp [encS, PyData.depth, PyData.depthAll]
  | .print v => by simp [encS, PyData.depth, PyData.depthAll]
  | .say n => by simp [encS, PyData.depth, PyData.depthAll]
  | .wait => by simp [encS, PyData.depth, PyData.depthAll]
  | .stop => by simp [encS, PyData.depth, PyData.depthAll]
  | .ite v n a b => by
    have h1 := dep_encB fl a
    have h2 := dep_encB fl b
    simp only [encS, PyData.depth, PyData.depthAll, dep_seq, dS]
    omega
  | .same v u a b => by
    have h1 := dep_encB fl a
    have h2 := dep_encB fl b
    simp only [encS, PyData.depth, PyData.depthAll, dep_seq, dS]
    omega
  | .rep n a => by
    have h1 := dep_encB fl a
    simp only [encS, PyData.depth, PyData.depthAll, dep_seq, dS]
    omega
theorem dep_encB (fl : Bool) : ∀ l : List Stm, PyData.depthAll (encB fl l) + 1 ≤ 2 * dB l
  | [] => by simp [encB, PyData.depthAll, dB]
  | s :: r => by
    have h1 := dep_encS fl s
    have h2 := dep_encB fl r
    simp only [encB, PyData.depthAll, dB]
    omega
end
theorem shaped_encB {fl : Bool} {l : List Stm} (h : wB l = true) (hd : dB l ≤ 4) : SeqAt.shaped (seqD fl (encB fl l)) = true := by
  unfold SeqAt.shaped
  rw [lay_seq (lay_encB fl l h), dep_seq, decide_eq_true (by have := dep_encB fl l; omega)]
  rfl
theorem eqv_encB {fl : Bool} {l : List Stm} (h : wB l = true) : PyData.eqv (seqD fl (encB fl l)) (seqD fl (encB fl l)) = true := SeqAt.eqv_refl _ (lay_seq (lay_encB fl l h))
theorem encB_get {fl : Bool} {l : List Stm} {i : Nat} {d : PyData} (h : (encB fl l)[i]? = some d) : ∃ s, l[i]? = some s ∧ d = encS fl s := by
  rw [encB_map, List.getElem?_map] at h
  obtain ⟨s, hs, e⟩ := Option.map_eq_some_iff.mp h
  exact ⟨s, hs, e.symm⟩
theorem ty_seq {K : PySem.W.Frag} {H0 H : Hp} {a : Addr} {xs : List V} (h : SqL K H0 a xs ∨ SqT K H0 a xs) (e : Same H0 H) : ∃ t, TyX K H (.ref a) t ∧ PySem.W.kitAny K t [.type "list", .type "tuple"] = some true := by
  rcases h with h | h
  · exact ⟨.type "list", tyL (e.seq h), kitAny_cons (b := true) (kit_ty (by decide +kernel)) (fun z => by cases z) (fun _ => rfl)⟩
  · exact ⟨.type "tuple", tyT (smT e h), kitAny_cons (b := false) (kit_ty (by decide +kernel)) (fun _ => kitAny_cons (b := true) (kit_ty (by decide +kernel)) (fun z => by cases z) (fun _ => rfl)) (fun z => by cases z)⟩
theorem strs_inv {K : PySem.W.Frag} {H : Hp} : ∀ {zs : List Str} {vs : List V}, DpAll K H vs (zs.map .str) → vs = zs.map V.str
  | [], _, h => DpAll.nil_inv h
  | z :: zs, _, h => by
    obtain ⟨v, r, rfl, h1, h2⟩ := DpAll.cons_inv h
    rw [Dp.str_inv h1, strs_inv h2]
    rfl
theorem word_read (s : Stm) : s.word = "read" ↔ ∃ v k, s = .read v k := by
  constructor
  · intro h
    cases s <;> first | exact ⟨_, _, rfl⟩ | exact absurd (show _ = (_ : Str) from h) (by simp only [Stm.word]; decide)
  · rintro ⟨v, k, rfl⟩
    rfl
theorem paired_eq {α : Type} {f : α → V} : ∀ {ys : List V} {l : List α}, Paired (fun y a => y = f a) ys l → ys = l.map f
  | _, _, .nil => rfl
  | _, _, .cons h t => by rw [h, paired_eq t]; rfl
theorem atI_nat0 {α : Type} {xs : List α} {i : Nat} {v : α} (h : xs[i]? = some v) : atI xs (0 + (i : Nat) : Int) = some v := by rw [Int.zero_add]; exact atI_nat h
theorem mk_sm {H H' : Hp} {x dx C : Addr} (hx : H x = none) (hdx : H dx = none) (e : ∀ b u, b ≠ x → (upd (upd H dx (.own x)) x (.ins C dx [])) b = some u → H' b = some u) : Same H H' := fun b u z => by
  refine e b u (ne_of_none z hx) ?_
  rw [upd_ne (ne_of_none z hx), upd_ne (ne_of_none z hdx)]
  exact z
theorem mk_in {H : Hp} {x dx C : Addr} (hx : H x = none) (hdx : H dx = none) (hne : dx ≠ x) : Same H (upd (upd H dx (.own x)) x (.ins C dx [])) :=
  smNew (smNew1 hdx _) (by rw [upd_ne hne.symm]; exact hx) _
/-- x[i], x a list or a tuple -/
def rIxA (K : PySem.W.Frag) : R2 := fun x y H Q => ∃ p xs i v, x = .ref p ∧ y = .int i ∧ (SqL K H p xs ∨ SqT K H p xs) ∧ atI xs i = some v ∧ Q v H
theorem ix_any {X : Cx} : IxR X (rIxA X.K) := by
  intro value slice pins s σ H x y v u Q I rx ry h hs
  obtain ⟨p, xs, i, v', e1, e2, h | h, h2, q⟩ := h
  · exact ix_list value slice pins s σ H x y v u Q I rx ry ⟨p, xs, i, v', e1, e2, h, h2, q⟩ hs
  · exact ix_tup value slice pins s σ H x y v u Q I rx ry ⟨p, xs, i, v', e1, e2, h, h2, q⟩ hs
end RM

set_option Elab.async false
set_option linter.all false
set_option maxRecDepth 100000
set_option maxHeartbeats 2000000
namespace RM
open PySem PySem.Spec PyProof.Rows L2
/-! ### own exception classes: what the head tells -/
/-- an exception class with its own __init__ -/
def oexB (K : PySem.W.Frag) (C : Addr) : Bool :=
  (match K.lookup C with
    | some ⟨.type t, _, .cls cd, sl⟩ => (match cd.mro, sl.toList with
      | .ref c :: bm, [_, _, _, _, some (.builtin n), _] => decide (t = "type") && (decide (c = C) && (decide (n = "ValueError.__new__") && ((!cd.hasDel) && (cd.hasDict && PySem.HandSPX.refsVE bm))))
      | _, _ => false)
    | _ => false) &&
  (He.eqO (PySem.W.findIn K (.ref C) "__setattr__") (some (some (.builtin "object.__setattr__"))) && (decide (PySem.W.subIn K (.ref C) (.type "BaseException") = some true) &&
    (decide (PySem.W.typeIn K (.ref C) = some (.type "type")) && PySem.W.keepIn K (.ref C))))
theorem oexB_ok {K : PySem.W.Frag} {C : Addr} (h : oexB K C = true) : OexC K C := by
  obtain ⟨h0, h⟩ := He.ba h
  obtain ⟨h1, h⟩ := He.ba h
  obtain ⟨h2, h⟩ := He.ba h
  obtain ⟨h3, h4⟩ := He.ba h
  refine ⟨?_, He.eqO_ok h1, of_decide_eq_true h2, of_decide_eq_true h3, h4⟩
  split at h0
  case h_2 => cases h0
  case h_1 t dd cd sl lk =>
    split at h0
    case h_2 => cases h0
    case h_1 c bm k0 k1 k2 k3 n k5 hm hsl =>
      obtain ⟨q1, h0⟩ := He.ba h0
      obtain ⟨q2, h0⟩ := He.ba h0
      obtain ⟨q3, h0⟩ := He.ba h0
      obtain ⟨q4, h0⟩ := He.ba h0
      obtain ⟨q5, q6⟩ := He.ba h0
      have e1 := of_decide_eq_true q1
      have e2 := of_decide_eq_true q2
      have e3 := of_decide_eq_true q3
      have e4 : cd.hasDel = false := by simpa using q4
      obtain ⟨l⟩ := sl
      have e6 : l = [k0, k1, k2, k3, some (.builtin n), k5] := hsl
      cases cd
      simp only at hm e4 q5
      subst hm e1 e2 e3 e4 q5 e6
      exact ⟨_, _, _, _, _, _, _, _, _, _, _, _, _, _, _, lk, q6⟩
/-- X(), X an own exception class without own __init__ -/
theorem pmk_exc0 {X : Cx} {x : Str} {p pos : Pos} (q : PySem.W.excIn X.K (He.ga X.K x) He.veBase "ValueError.__new__" = true ∧ PySem.W.keepIn X.K (.ref (He.ga X.K x)) = true ∧ PySem.W.subIn X.K (.ref (He.ga X.K x)) (.type "BaseException") = some true ∧
      PySem.W.typeIn X.K (.ref (He.ga X.K x)) = some (.type "type")) (gC : X.mg x = some (.ref (He.ga X.K x))) (hg : Gl X x := by rfl) (hdb : (x == ("__debug__" : Str)) = false := by decide) :
    PMk X (.Call (.Name x p) [] [] pos) (fun _ H Q => Q (.ref (He.ga X.K x)) none H) := by
  obtain ⟨q1, q2, q3, q4⟩ := q
  intro pins s σ H Q I h
  refine wpAny_Call_Name_kw (ld_glob I hg gC ?_ hdb)
  refine PySem.W.callWith_K0 I.kIn q2 ?_
  obtain ⟨bm, N, nm, qn, bs, hd, sn, sub, ab, col, dd, k0, k1, k2, k3, k5, mN, hC, hN, hni, T⟩ := exc_obj I.kIn q1
  exact wpAny_call_exc_subT F.excBase_ValueError T hC hN hni (fun h' e hm => mk_of I hm (raises_own q3 q4) h (I.hok.gone hm.new)) (by show 0 ≤ sizeLine; exact Nat.zero_le _)
/-! ### defs that let exceptions out -/
section
variable {P : Program} {w : World} {K : PySem.W.Frag} {mg : Str → Option Value} {base : Heap} {k : Nat} {x m : Str} {C : Addr} {sp : Sp}
/-- the body's form -/
def BodyX (P : Program) (w : World) (K : PySem.W.Frag) (mg : Str → Option Value) (base : Heap) (N : List Str) (qual : Str) (st : Stmt) (f : Addr) (k : Nat) (sp : Sp) : Prop :=
  ∀ (cdv : Value) (A : Around) (outer : List Env) (s : Shared) (H : Hp) (vs : List V) (Q : VK) (E : XK), Room k (A.deeper (envOfC qual (defScope st) s.heap.objs.size f cdv)) → sp vs H Q E →
    ∃ t, PSs (cxOf (L2.CX P w) P w K mg base N qual (defScope st) f cdv A outer s H E) (defBody st) t ∧ t { nx := fun _ H' => Q .non H', rt := Q } (start N vs) H
theorem cal_X {st : Stmt} {f : Addr} {N ps : List Str} (F : ∃ fd, FunD K x x (defArgs st) (defBody st) (defScope st) [] [] f fd) (hm : mg x = some (.ref f)) (S : FnScope N ps (defScope st))
    (hb : ∀ (kV doc pm : Value) (an : Option Addr) (cdv ct : Value) (us : List Value), us.length = ps.length → bindArgs (PySem.W.fnOf x x (defArgs st) (defBody st) (defScope st) .none kV doc pm an cdv ct) ⟨us, []⟩ = pure (ps.zip us))
    (len : ∀ vs H Q E, sp vs H Q E → vs.length = ps.length) (h : BodyX P w K mg base N x st f k sp) : Cal P w K mg base (L2.CX P w) (k + 1) x sp :=
  let ⟨fd, F⟩ := F
  ⟨f, fd, ps, F.ok S len h, hm, F.kp, F.bindsN hb⟩
theorem mak_X {qual : Str} {st : Stmt} {f : Addr} {N ps : List Str} (F : ∃ fd, FunD K "__init__" qual (defArgs st) (defBody st) (defScope st) [] [] f fd) (M : Mk K C f) (hm : mg x = some (.ref C)) (S : FnScope N ps (defScope st))
    (hb : ∀ (kV doc pm : Value) (an : Option Addr) (cdv ct : Value) (us : List Value), us.length = ps.length → bindArgs (PySem.W.fnOf "__init__" qual (defArgs st) (defBody st) (defScope st) .none kV doc pm an cdv ct) ⟨us, []⟩ = pure (ps.zip us))
    (len : ∀ vs H Q E, sp vs H Q E → vs.length = ps.length) (h : BodyX P w K mg base N qual st f k sp) : Mak P w K mg base (L2.CX P w) (k + 1) x C sp :=
  let ⟨fd, F⟩ := F
  ⟨f, fd, ps, M, F.ok S len h, hm, F.bindsN hb⟩
theorem calX_never {x : Str} {st : Stmt} {f : Addr} {ps : List Str} {sp : Sp} {k : Nat} (F : ∃ fd, FunD K x x (defArgs st) (defBody st) (defScope st) [] [] f fd) (hm : mg x = some (.ref f))
    (hb : ∀ (kV doc pm : Value) (an : Option Addr) (cdv ct : Value) (us : List Value), us.length = ps.length → bindArgs (PySem.W.fnOf x x (defArgs st) (defBody st) (defScope st) .none kV doc pm an cdv ct) ⟨us, []⟩ = pure (ps.zip us))
    (no : ∀ vs H Q E, ¬ sp vs H Q E) : Cal P w K mg base (L2.CX P w) k x sp :=
  let ⟨fd, F⟩ := F
  ⟨f, fd, ps, ⟨fun vs H Q E h => absurd h (no vs H Q E), fun A outer s H args us vs Q E _ _ _ _ h => absurd h (no vs H Q E)⟩, hm, F.kp, F.bindsN hb⟩
/-- an own exception class: its name, its __init__ -/
def Exo (P : Program) (w : World) (K : PySem.W.Frag) (mg : Str → Option Value) (base : Heap) (k : Nat) (x : Str) (C : Addr) (sp : Sp) : Prop :=
  ∃ (f : Addr) (fd : FuncData) (ps : List Str), OexC K C ∧ Meth K C "__init__" f ∧ FnOk P w K mg base CX0 k f fd ps sp ∧ mg x = some (.ref C) ∧ Binds K fd ps []
end
section
variable {X : Cx} {W : WX} {k j : Nat} {C : Addr} {x m : Str} {sp : Sp} {E : L2.St → XK} {p pos apos : Pos} {e o : Expr} {es : List Expr} {ta : TE} {t : TA}
/-- f(e, ..), f of a promise with exceptions -/
theorem pcX (tk : Takes X W) (c : Cal X.prog X.w X.K X.mg X.base (L2.CX X.prog X.w) k x sp) (hr : Room j X.A) (ha : PA X (e :: es) t) (hk : k ≤ j := by omega) (hg : Gl X x := by rfl)
    (hpl : (backTo pos (starEach es X.env)).any (·.1) = false := by rfl) (he : starEach (e :: es) X.env = (false, eval e X.env) :: starEach es X.env := by rfl) (hdb : (x == ("__debug__" : Str)) = false := by decide) :
    PE X (.Call (.Name x p) (e :: es) [] pos) (tCallS sp (WE W) t) := by
  obtain ⟨f, fd, ps, F, hm, kp, b⟩ := c
  exact pe_callS F (hr.mono hk) hg hm kp b (fun σ => passAt tk σ) ha hdb he hpl
/-- C(e, ..): a new instance; E at the slots -/
def tMakeS (C : Addr) (sp : Sp) (E : L2.St → XK) (t : TA) : TE := fun σ H Q => t σ H fun vs H1 => ∀ x dx, H1 x = none → H1 dx = none → dx ≠ x →
  sp (.ref x :: vs) (upd (upd H1 dx (.own x)) x (.ins C dx [])) (fun v H2 => v = .non ∧ Q (.ref x) H2) (E σ)
theorem pmkX (tk : Takes X W) (c : Mak X.prog X.w X.K X.mg X.base (L2.CX X.prog X.w) k x C sp) (hr : Room j X.A) (ha : PA X (e :: es) t) (hk : k + 1 ≤ j := by omega) (hg : Gl X x := by rfl)
    (hpl : (backTo pos (starEach es X.env)).any (·.1) = false := by rfl) (he : starEach (e :: es) X.env = (false, eval e X.env) :: starEach es X.env := by rfl) (hdb : (x == ("__debug__" : Str)) = false := by decide) :
    PE X (.Call (.Name x p) (e :: es) [] pos) (tMakeS C sp (WE W) t) := by
  obtain ⟨f, fd, ps, M, F, hm, b⟩ := c
  constructor
  intro pins s σ H Q I h
  refine wpAny_Call_Name_kw (ld_glob I hg hm ?_ hdb)
  refine PySem.W.callWith_K (h₀ := X.base) I.ok.mod.kin M.kp (thn (ha.run pos pins s σ H _ I h) ?_) he hpl
  rintro us s1 ⟨vs, H1, I1, r, q⟩
  refine ⟨I1.kIn, ?_⟩
  have f1 : H1 (s1.heap.objs.size + 1) = none := I1.hok.fresh (Nat.le_succ _)
  have f2 : H1 s1.heap.objs.size = none := I1.hok.fresh (Nat.le_refl _)
  have q1 := q _ _ f1 f2 (Nat.ne_of_lt (Nat.lt_succ_self _))
  have J := Inv.made (C := C) I1
  have rr : Vals (V.ref (s1.heap.objs.size + 1) :: vs) (Value.ref (s1.heap.objs.size + 1) :: us) := .cons rfl r
  have ll : (Value.ref (s1.heap.objs.size + 1) :: us).length = ps.length := rr.length.symm.trans (F.len _ _ _ _ q1)
  have bb := b _ (Value.ref (s1.heap.objs.size + 1) :: us) J.kIn (by rw [List.append_nil]; exact ll)
  rw [List.append_nil] at bb
  refine wpAny_call (make_map (f := f) I1.kIn M.makes M.init (beq_iff_eq.mp M.fn) (codeAny_mono (F.run _ X.stack _ _ ⟨Value.ref (s1.heap.objs.size + 1) :: us, []⟩ _ _ _ _ ((hr.mono hk).make C us []) (J.env0.make C us []) bb rr q1) ?_))
  intro r2 s2 z
  match r2, z with
  | .error y, z => exact passAt tk σ pins _ _ y s2 J z
  | .ok (.ret y), z =>
    obtain ⟨v, H2, J2, rv, rfl, q2⟩ := J.after z
    exact ⟨rv, V.ref (s1.heap.objs.size + 1), H2, J2, rfl, q2⟩
/-- raise C(e, ..), C with its own __init__ -/
theorem ps_raiseX {pos2 : Pos} (tk : Takes X W) (c : Exo X.prog X.w X.K X.mg X.base k x C sp) (hr : Room j X.A) (ha : PA X (e :: es) t) (hc : X.calm = true := by rfl) (hk : k + 1 ≤ j := by omega) (hg : Gl X x := by rfl)
    (hpl : (backTo pos (starEach es X.env)).any (·.1) = false := by rfl) (he : starEach (e :: es) X.env = (false, eval e X.env) :: starEach es X.env := by rfl) (hdb : (x == ("__debug__" : Str)) = false := by decide) :
    PS X (.Raise (some (.Call (.Name x p) (e :: es) [] pos)) none pos2) (fun _ σ H => tMkO C sp [] t σ H fun cls d H' => W cls d σ H') := by
  obtain ⟨f, fd, ps, T, M, F, hm, b⟩ := c
  exact ps_raise hc tk (pmk_oex T M.at_ (beq_iff_eq.mp M.fn) F (hr.mono hk) b .nil pass0 hg hm ha hdb he hpl)
end
/-! ### except clauses, each with or without a name -/
/-- an exception stands caught at the foot of the try -/
def Caught (X : Cx) (pins : List (Addr × Obj)) (σ : L2.St) (H : Hp) (cls : Value) (d : Option Addr) (a : Addr) (s : Shared) : Prop :=
  H a = none ∧ ∃ (B : Heap) (sI : Shared), Inv X pins σ H sI ∧ (∀ b o, sI.heap.get? b = some o → b ∉ frs X.stack → B.get? b = some o) ∧ sI.heap.UpToSlots s.heap ∧ HandSPX.FlyingZ B X.stack a (Zc cls d) s.heap ∧ s.os = sI.os ∧ AllBare s.gens
section
variable {X : Cx} {pins : List (Addr × Obj)} {σ : L2.St} {H : Hp} {cls : Value} {d : Option Addr} {a : Addr} {s : Shared}
theorem Caught.inv (c : Caught X pins σ H cls d a s) : Inv X pins σ H s :=
  let ⟨_, _, _, I, nb, up, fl, os, ag⟩ := c; I.landed nb fl.1 up os ag
theorem Caught.obj (c : Caught X pins σ H cls d a s) : ∃ oe vs, s.heap.get? a = some oe ∧ Zc cls d oe ∧ oe.data = .fields vs :=
  let ⟨_, _, _, _, _, _, fl, _, _⟩ := c; fl.there
theorem Caught.far (c : Caught X pins σ H cls d a s) : a ∉ frs X.stack := by
  obtain ⟨_, _, _, _, _, _, fl, _, _⟩ := c
  obtain ⟨oe, vs, e, _, dd⟩ := fl.there
  intro hm
  obtain ⟨_, o, e', hnf⟩ := fl.2.2.1.mem hm
  rw [e] at e'
  exact hnf vs (Option.some.inj e' ▸ dd)
theorem Caught.suite (c : Caught X pins σ H cls d a s) (hs : X.stack = X.env :: X.outer) (hf : X.env.frame = some X.env.locals) :
    ∃ oe, (Zc cls d oe ∧ ∃ vs, oe.data = .fields vs) ∧ s.heap.get? a = some oe ∧ Inv (X.suite a ((a, oe) :: (X.pn ++ pins))) [] σ H s := by
  obtain ⟨oe, vs, e, z, dd⟩ := c.obj
  have nf := c.far
  rw [hs] at nf
  refine ⟨oe, ⟨z, vs, dd⟩, e, c.inv.suite e dd c.1 (fun h => nf ?_) fun h => nf ?_⟩
  · exact List.mem_filterMap.mpr ⟨X.env, List.mem_cons_self, by rw [hf, h]⟩
  · obtain ⟨u, hu, q⟩ := List.mem_filterMap.mp h
    exact List.mem_filterMap.mpr ⟨u, List.mem_cons_of_mem _ hu, q⟩
theorem Caught.again {M : Model} {A : Around} {Q : Unit → Shared → Prop} {E : Value → Shared → Prop} (c : Caught X pins σ H cls d a s) (h : ∀ s', Caught X pins σ H cls d a s' → Q () s') : wpAny M A (setFlight (.ref a) none) Q E s := by
  obtain ⟨na, B, sI, I, nb, up, fl, os, ag⟩ := c
  exact HandSPX.lands_againZ fl fun h' fl' up' => h _ ⟨na, B, sI, I, nb, up.trans up', fl', os, ag⟩
/-- what a row of clauses wishes, read at the ends -/
def Hds (X : Cx) (hds : List ExceptHandler) (wv : Ends → WX) : Prop :=
  ∀ (pins : List (Addr × Obj)) (D : Ends) (σ : L2.St) (H : Hp) (cls : Value) (d : Option Addr) (a : Addr) (s : Shared), Caught X pins σ H cls d a s → wv D cls d σ H → wpAny (model X.prog X.w) X.A (handleBy (.ref a) X.env hds) (SP X pins D) X.xe s
theorem hds_nil {W : WX} (tk : Takes X W) (hf : X.env.frame = some X.env.locals := by rfl) : Hds X [] (fun _ => W) := by
  intro pins D σ H cls d a s c w
  refine wpAny_handleBy_nil ?_
  obtain ⟨na, B, sI, I, nb, up, fl, os, ag⟩ := c
  obtain ⟨_, _, _, oe, vs, T, _, _, e, _, dd, h1, _⟩ := id fl
  unfold PySem.passOn
  refine wpAny_bind (wpAny_field e dd h1 ?_)
  rw [if_neg (by simp)]
  have out : wpAny (model X.prog X.w) X.A (setFlight (.ref a) X.env.frame) (fun _ s' => wpAny (model X.prog X.w) X.A (throw (.ref a) : Sem Flow) (SP X pins D) X.xe s') X.xe s := by
    rw [hf]
    exact HandSPX.setFlight_upZ fl fun h' hh up' => wpAny_throw (tk _ _ ⟨a, B, sI, pins, σ, H, cls, d, rfl, I, nb, up.trans up', .inr (.inr hh), na, os, ag, w⟩)
  first
    | exact wpAny_bind (wpAny_pure (wpAny_bind out))
    | exact wpAny_bind out
/-- the clause's class is looked at -/
theorem hd_test {x : Str} {np : Pos} {c : Value} {b : Bool} {Q : Bool → Shared → Prop} {E : Value → Shared → Prop} {R : Result → Shared → Prop} {pos' : Pos} (hc : Names X x c) (k : Caught X pins σ H cls d a s) (hs : X.stack = X.env :: X.outer) (hf : X.env.frame = some X.env.locals)
    (hb : PySem.W.exmOne X.K cls c = some b) (h : R (.ok (if b = true then .brk else .next)) s) : codeAny (model X.prog X.w) (X.A.mark (some (.ref a))) (.handlers (.ref a) [.ExceptHandler (some (.Name x np)) none [] pos'] X.env) R s := by
  obtain ⟨oe, ⟨z, _⟩, e, S⟩ := k.suite hs hf
  refine codeAny_handlers_test ?_
  have tyl : PySem.W.Looks (model X.prog X.w) s.heap (typeOf (.ref a)) cls := fun A Q E s k q => wpAny_typeOf_ref (k _ _ e) (by rw [z.1]; exact q)
  have fit := (PySem.W.exm_one (M := model X.prog X.w) k.inv.kIn tyl hb).here (A := X.A.mark (some (.ref a))) (E := notedBy (model X.prog X.w) (X.A.mark (some (.ref a))) X.env fun x s₁ => R (.error x) s₁)
    (Q := fun b s₂ => R (.ok (if b then .brk else .next)) s₂) (s := s) h
  obtain ⟨hg, hd, hm | ⟨hm, hv, hn⟩⟩ := hc
  · exact ld_glob S hg hm fit hd
  · exact ld_blt S hg hm hv fit hn hd
/-- except x: suite -/
def wCl (K : PySem.W.Frag) (c : Value) (ts : Addr → Value → Option Addr → L2.TS) (wr : Ends → WX) : Ends → WX := fun D cls d σ H =>
  ∃ b, PySem.W.exmOne K cls c = some b ∧ (if b = true then ∀ a, H a = none → ts a cls d D σ H else wr D cls d σ H)
/-- the slot of the clause's name is emptied behind -/
def Ends.gone (i : Nat) (D : Ends) : Ends := { nx := fun σ H => D.nx (σ.set i none) H, rt := D.rt, bk := fun σ H => D.bk (σ.set i none) H, ct := fun σ H => D.ct (σ.set i none) H }
/-- except x as n: suite -/
def wClA (K : PySem.W.Frag) (c : Value) (i : Nat) (ts : Addr → Value → Option Addr → L2.TS) (wr : Ends → WX) : Ends → WX := fun D cls d σ H =>
  ∃ b, PySem.W.exmOne K cls c = some b ∧ (if b = true then ∀ a, H a = none → ts a cls d (Ends.gone i D) (σ.set i (some (.ref a))) H else wr D cls d σ H)
theorem hds_cl {x : Str} {np pos' : Pos} {c : Value} {ts : Addr → Value → Option Addr → L2.TS} {b₀ : Stmt} {su : List Stmt} {hds : List ExceptHandler} {wr : Ends → WX} (hc : Names X x c)
    (hsu : ∀ (a : Addr) (oe : Obj) (cls : Value) (d : Option Addr) (pn : List (Addr × Obj)), Zc cls d oe → (∃ vs, oe.data = .fields vs) → PSs (X.suite a ((a, oe) :: pn)) (b₀ :: su) (ts a cls d)) (r : Hds X hds wr)
    (ok : X.Ok → True := fun _ => trivial) (hs : X.stack = X.env :: X.outer := by rfl) (hf : X.env.frame = some X.env.locals := by rfl) : Hds X (.ExceptHandler (some (.Name x np)) none (b₀ :: su) pos' :: hds) (wCl X.K c ts wr) := by
  rintro pins D σ H cls d a s k ⟨b, hb, w⟩
  refine wpAny_handleBy_cons (hd_test (Q := fun _ _ => True) (E := fun _ _ => True) hc k hs hf hb ?_) (fun q => by cases q)
  cases b with
  | false => exact r pins D σ H cls d a s k w
  | true =>
    refine codeAny_handlers_suite (k.again fun s1 k1 => ?_)
    obtain ⟨oe, ⟨z, dd⟩, _, S⟩ := k1.suite hs hf
    refine wpAny_mono ((hsu a oe cls d (X.pn ++ pins) z dd).run [] s1 σ H _ S (w a k.1)) (fun f s2 q => ?_) (fun _ _ q => False.elim q)
    have back : ∀ {σ2 H2}, Inv (X.suite a ((a, oe) :: (X.pn ++ pins))) [] σ2 H2 s2 → Inv X pins σ2 H2 s2 := fun J => J.unsuite k.inv.ok
    match f, q with
    | .ret u, ⟨v, σ2, H2, J, q⟩ => exact ⟨v, σ2, H2, back J, q⟩
    | .next, ⟨σ2, H2, J, q⟩ => exact ⟨σ2, H2, back J, q⟩
    | .brk, ⟨σ2, H2, J, q⟩ => exact ⟨σ2, H2, back J, q⟩
    | .cont, ⟨σ2, H2, J, q⟩ => exact ⟨σ2, H2, back J, q⟩
theorem hds_as {x n : Str} {np pos' : Pos} {c : Value} {i : Nat} {ts : Addr → Value → Option Addr → L2.TS} {b₀ : Stmt} {su : List Stmt} {hds : List ExceptHandler} {wr : Ends → WX} (hN : X.N.Nodup) (hi : X.N[i]? = some n) (hln : X.env.kindOf n = some .local) (hc : Names X x c)
    (hsu : ∀ (a : Addr) (oe : Obj) (cls : Value) (d : Option Addr) (pn : List (Addr × Obj)), Zc cls d oe → (∃ vs, oe.data = .fields vs) → PSs (X.suite a ((a, oe) :: pn)) (b₀ :: su) (ts a cls d)) (r : Hds X hds wr)
    (hs : X.stack = X.env :: X.outer := by rfl) (hf : X.env.frame = some X.env.locals := by rfl) : Hds X (.ExceptHandler (some (.Name x np)) (some n) (b₀ :: su) pos' :: hds) (wClA X.K c i ts wr) := by
  rintro pins D σ H cls d a s k ⟨b, hb, w⟩
  refine wpAny_handleBy_cons (hd_test (Q := fun _ _ => True) (E := fun _ _ => True) hc k hs hf hb ?_) (fun q => by cases q)
  cases b with
  | false => exact r pins D σ H cls d a s k w
  | true =>
    refine codeAny_handlers_suite_as (k.again fun s1 k1 => ?_)
    obtain ⟨oe, ⟨z, dd⟩, _, S⟩ := k1.suite hs hf
    refine store_ok (X := X.suite a ((a, oe) :: (X.pn ++ pins))) (v := .ref a) S hN hi (.inl hln) rfl (fun s2 S2 => ?_) (.inr hln)
    refine wpAny_mono ((hsu a oe cls d (X.pn ++ pins) z dd).run [] s2 _ H _ S2 (w a k.1)) (fun f s3 q => ?_) (fun _ _ q => False.elim q)
    have back : ∀ {σ3 : L2.St} {H3 : Hp} {Q : Unit → Shared → Prop}, Inv (X.suite a ((a, oe) :: (X.pn ++ pins))) [] σ3 H3 s3 → (∀ s4, Inv X pins (σ3.set i none) H3 s4 → Q () s4) →
      wpAny (model X.prog X.w) X.A (do bindName X.env n .none; unbindBehindTheSuite X.env n pos') Q X.xe s3 := fun J g => gone_ok (J.unsuite k.inv.ok) hN hi hln g
    match f, q with
    | .ret u, ⟨v, σ3, H3, J, q⟩ => exact back J fun s4 J4 => ⟨v, _, H3, J4, q⟩
    | .next, ⟨σ3, H3, J, q⟩ => exact back J fun s4 J4 => ⟨_, H3, J4, q⟩
    | .brk, ⟨σ3, H3, J, q⟩ => exact back J fun s4 J4 => ⟨_, H3, J4, q⟩
    | .cont, ⟨σ3, H3, J, q⟩ => exact back J fun s4 J4 => ⟨_, H3, J4, q⟩
/-- try: body / the clauses -/
theorem ps_tryG {body : List Stmt} {h₀ : ExceptHandler} {hds : List ExceptHandler} {wv : Ends → WX} {tb : WX → L2.TS} {pos : Pos}
    (hb : ∀ (W : WX) (pn : List (Addr × Obj)) (xe : Value → Shared → Prop), Takes (X.tr pn xe) W → PSs (X.tr pn xe) body (tb W)) (hh : Hds X (h₀ :: hds) wv)
    (hs : X.stack = X.env :: X.outer := by rfl) (hf : X.env.frame = some X.env.locals := by rfl) : PS X (.Try body (h₀ :: hds) [] [] pos) (fun D σ H => tb (wv D) D σ H) := by
  constructor
  intro pins s σ H D I h
  have ok := I.ok
  have hfr : X.A.frames = some (X.env :: X.outer) := ok.frames.trans (by rw [hs])
  let xe2 : Value → Shared → Prop := fun e s₁ => wpAny (model X.prog X.w) X.A (noteFrame e X.env) (fun _ s₂ => wpAny (model X.prog X.w) X.A (setFlight e none) (fun _ s₃ =>
    wpAny (model X.prog X.w) X.A (handleBy e X.env (h₀ :: hds)) (SP X pins D) X.xe s₃) X.xe s₂) X.xe s₁
  have tk : Takes (X.tr (X.pn ++ pins) xe2) (wv D) := by
    rintro u s' ⟨a, B, sI, pins', σ', H', cls, d, rfl, J, nb, up, sky, na, os, ag, w⟩
    have sky2 : Sky B (X.env :: X.outer) a (Zc cls d) X.env.locals s'.heap := hs ▸ sky
    refine Sky.land Zc.steady hfr hf sky2 fun h3 fl up3 => ?_
    exact hh pins D σ' H' cls d a { s' with heap := h3 } ⟨na, B, sI, J.ofTry ok, nb, up.trans up3, hs ▸ fl, os, ag⟩ w
  refine wpAny_Try_except (wpAny_mono ((hb (wv D) _ _ tk).run [] s σ H D (I.toTry _) h) (fun f s1 q => ?_) (fun _ _ q => q))
  match f, q with
  | .next, ⟨σ2, H2, J, q⟩ => exact wpAny_execs_nil ⟨σ2, H2, J.ofTry ok, q⟩
  | .ret u, ⟨v, σ2, H2, J, q⟩ => exact ⟨v, σ2, H2, J.ofTry ok, q⟩
  | .brk, ⟨σ2, H2, J, q⟩ => exact ⟨σ2, H2, J.ofTry ok, q⟩
  | .cont, ⟨σ2, H2, J, q⟩ => exact ⟨σ2, H2, J.ofTry ok, q⟩
end
end RM

set_option Elab.async false
set_option linter.all false
set_option maxRecDepth 100000
set_option maxHeartbeats 0
namespace RM
open PySem PySem.Spec PyProof.Rows L2
def top (i : Nat) : Stmt := PySem.Challenge.pw_readmoments_k03_programs_refused.main.body.getD i (.Pass ⟨0, 0, 0, 0⟩)
abbrev s_BadStatement_init : Stmt := inClass (top 5) 0
abbrev s_is_word : Stmt := top 10
abbrev s_is_value : Stmt := top 11
abbrev s_is_item : Stmt := top 16
abbrev s_is_statement : Stmt := top 17
abbrev s_bodies_of : Stmt := top 18
abbrev s_check_body : Stmt := top 19
abbrev s_as_tuples : Stmt := top 20
abbrev s_all_statements : Stmt := top 21
abbrev s_depth_of : Stmt := top 22
abbrev s_check_size : Stmt := top 23
abbrev s_Program_init : Stmt := inClass (top 24) 0
abbrev s_Program_eq : Stmt := inClass (top 24) 1
abbrev s_law_begin : Stmt := top 26
abbrev s_law_draw : Stmt := top 27
abbrev s_law_values : Stmt := top 28
abbrev s_law_changes : Stmt := top 29
abbrev s_law_variable : Stmt := top 30
abbrev s_law_plain : Stmt := top 31
abbrev s_law_body : Stmt := top 32
abbrev s_law_size : Stmt := top 33
abbrev s_law_prints : Stmt := top 34
abbrev s_law_short : Stmt := top 35
abbrev s_law_case : Stmt := top 36
abbrev s_law_word_good : Stmt := top 37
abbrev s_law_value_good : Stmt := top 38
abbrev s_law_item_good : Stmt := top 39
abbrev s_law_form : Stmt := top 40
abbrev s_law_good : Stmt := top 41
abbrev s_law_wrong : Stmt := top 42
abbrev s_law_count : Stmt := top 43
abbrev s_law_deep : Stmt := top 44
abbrev s_law_spoiled : Stmt := top 45
abbrev s_law_told : Stmt := top 46
abbrev s_law : Stmt := top 47
def d_BadStatement_init : He.DefD := ⟨("BadStatement", some "__init__"), "__init__", "BadStatement.__init__", defArgs s_BadStatement_init, defBody s_BadStatement_init, defScope s_BadStatement_init, [], []⟩
def d_is_word : He.DefD := ⟨("is_word", none), "is_word", "is_word", defArgs s_is_word, defBody s_is_word, defScope s_is_word, [], []⟩
def d_is_value : He.DefD := ⟨("is_value", none), "is_value", "is_value", defArgs s_is_value, defBody s_is_value, defScope s_is_value, [], []⟩
def d_is_item : He.DefD := ⟨("is_item", none), "is_item", "is_item", defArgs s_is_item, defBody s_is_item, defScope s_is_item, [], []⟩
def d_is_statement : He.DefD := ⟨("is_statement", none), "is_statement", "is_statement", defArgs s_is_statement, defBody s_is_statement, defScope s_is_statement, [], []⟩
def d_bodies_of : He.DefD := ⟨("bodies_of", none), "bodies_of", "bodies_of", defArgs s_bodies_of, defBody s_bodies_of, defScope s_bodies_of, [], []⟩
def d_check_body : He.DefD := ⟨("check_body", none), "check_body", "check_body", defArgs s_check_body, defBody s_check_body, defScope s_check_body, [], []⟩
def d_as_tuples : He.DefD := ⟨("as_tuples", none), "as_tuples", "as_tuples", defArgs s_as_tuples, defBody s_as_tuples, defScope s_as_tuples, [], []⟩
def d_all_statements : He.DefD := ⟨("all_statements", none), "all_statements", "all_statements", defArgs s_all_statements, defBody s_all_statements, defScope s_all_statements, [], []⟩
def d_depth_of : He.DefD := ⟨("depth_of", none), "depth_of", "depth_of", defArgs s_depth_of, defBody s_depth_of, defScope s_depth_of, [], []⟩
def d_check_size : He.DefD := ⟨("check_size", none), "check_size", "check_size", defArgs s_check_size, defBody s_check_size, defScope s_check_size, [], []⟩
def d_Program_init : He.DefD := ⟨("Program", some "__init__"), "__init__", "Program.__init__", defArgs s_Program_init, defBody s_Program_init, defScope s_Program_init, [], []⟩
def d_Program_eq : He.DefD := ⟨("Program", some "__eq__"), "__eq__", "Program.__eq__", defArgs s_Program_eq, defBody s_Program_eq, defScope s_Program_eq, [], []⟩
def d_law_begin : He.DefD := ⟨("_law_begin", none), "_law_begin", "_law_begin", defArgs s_law_begin, defBody s_law_begin, defScope s_law_begin, [], []⟩
def d_law_draw : He.DefD := ⟨("_law_draw", none), "_law_draw", "_law_draw", defArgs s_law_draw, defBody s_law_draw, defScope s_law_draw, [], []⟩
def d_law_values : He.DefD := ⟨("_law_values", none), "_law_values", "_law_values", defArgs s_law_values, defBody s_law_values, defScope s_law_values, [], []⟩
def d_law_changes : He.DefD := ⟨("_law_changes", none), "_law_changes", "_law_changes", defArgs s_law_changes, defBody s_law_changes, defScope s_law_changes, [], []⟩
def d_law_variable : He.DefD := ⟨("_law_variable", none), "_law_variable", "_law_variable", defArgs s_law_variable, defBody s_law_variable, defScope s_law_variable, [], []⟩
def d_law_plain : He.DefD := ⟨("_law_plain", none), "_law_plain", "_law_plain", defArgs s_law_plain, defBody s_law_plain, defScope s_law_plain, [], []⟩
def d_law_body : He.DefD := ⟨("_law_body", none), "_law_body", "_law_body", defArgs s_law_body, defBody s_law_body, defScope s_law_body, [], []⟩
def d_law_size : He.DefD := ⟨("_law_size", none), "_law_size", "_law_size", defArgs s_law_size, defBody s_law_size, defScope s_law_size, [], []⟩
def d_law_prints : He.DefD := ⟨("_law_prints", none), "_law_prints", "_law_prints", defArgs s_law_prints, defBody s_law_prints, defScope s_law_prints, [], []⟩
def d_law_short : He.DefD := ⟨("_law_short", none), "_law_short", "_law_short", defArgs s_law_short, defBody s_law_short, defScope s_law_short, [], []⟩
def d_law_case : He.DefD := ⟨("_law_case", none), "_law_case", "_law_case", defArgs s_law_case, defBody s_law_case, defScope s_law_case, [], []⟩
def d_law_word_good : He.DefD := ⟨("_law_word_good", none), "_law_word_good", "_law_word_good", defArgs s_law_word_good, defBody s_law_word_good, defScope s_law_word_good, [], []⟩
def d_law_value_good : He.DefD := ⟨("_law_value_good", none), "_law_value_good", "_law_value_good", defArgs s_law_value_good, defBody s_law_value_good, defScope s_law_value_good, [], []⟩
def d_law_item_good : He.DefD := ⟨("_law_item_good", none), "_law_item_good", "_law_item_good", defArgs s_law_item_good, defBody s_law_item_good, defScope s_law_item_good, [], []⟩
def d_law_form : He.DefD := ⟨("_law_form", none), "_law_form", "_law_form", defArgs s_law_form, defBody s_law_form, defScope s_law_form, [], []⟩
def d_law_good : He.DefD := ⟨("_law_good", none), "_law_good", "_law_good", defArgs s_law_good, defBody s_law_good, defScope s_law_good, [], []⟩
def d_law_wrong : He.DefD := ⟨("_law_wrong", none), "_law_wrong", "_law_wrong", defArgs s_law_wrong, defBody s_law_wrong, defScope s_law_wrong, [], []⟩
def d_law_count : He.DefD := ⟨("_law_count", none), "_law_count", "_law_count", defArgs s_law_count, defBody s_law_count, defScope s_law_count, [], []⟩
def d_law_deep : He.DefD := ⟨("_law_deep", none), "_law_deep", "_law_deep", defArgs s_law_deep, defBody s_law_deep, defScope s_law_deep, [], []⟩
def d_law_spoiled : He.DefD := ⟨("_law_spoiled", none), "_law_spoiled", "_law_spoiled", defArgs s_law_spoiled, defBody s_law_spoiled, defScope s_law_spoiled, [], []⟩
def d_law_told : He.DefD := ⟨("_law_told", none), "_law_told", "_law_told", defArgs s_law_told, defBody s_law_told, defScope s_law_told, [], []⟩
def d_law : He.DefD := ⟨("law", none), "law", "law", defArgs s_law, defBody s_law, defScope s_law, [], []⟩
def fnL : List He.DefD := [d_BadStatement_init, d_is_word, d_is_value, d_is_item, d_is_statement, d_bodies_of, d_check_body, d_as_tuples, d_all_statements, d_depth_of, d_check_size, d_Program_init, d_Program_eq, d_law_begin, d_law_draw, d_law_values, d_law_changes, d_law_variable, d_law_plain, d_law_body, d_law_size, d_law_prints, d_law_short, d_law_case, d_law_word_good, d_law_value_good, d_law_item_good, d_law_form, d_law_good, d_law_wrong, d_law_count, d_law_deep, d_law_spoiled, d_law_told, d_law]
def fa0 : List He.Fa := [.glo "is_word", .glo "is_value", .glo "is_item", .glo "is_statement", .glo "bodies_of", .glo "check_body", .glo "as_tuples", .glo "all_statements", .glo "depth_of", .glo "check_size", .glo "_law_begin", .glo "_law_draw", .glo "_law_values", .glo "_law_changes", .glo "_law_variable", .glo "_law_plain", .glo "_law_body", .glo "_law_size", .glo "_law_prints", .glo "_law_short", .glo "_law_case", .glo "_law_word_good", .glo "_law_value_good", .glo "_law_item_good", .glo "_law_form", .glo "_law_good", .glo "_law_wrong", .glo "_law_count", .glo "_law_deep", .glo "_law_spoiled"]
def fa1 : List He.Fa := [.glo "_law_told", .glo "law", .glo "MomentError", .glo "TooLong", .glo "TooDeep", .glo "BadStatement", .glo "Program", .free "NotImplemented", .free "all", .free "bool", .free "enumerate", .free "int", .free "isinstance", .free "len", .free "list", .free "max", .free "range", .free "sorted", .free "str", .free "sum", .free "tuple", .free "zip", .str "LETTERS" "abcdefghijklmnopqrstuvwxyz", .int "LONGEST" 6, .int "GREATEST" 99, .int "MOST" 60, .int "DEEPEST" 4, .glo "FORMS", .cls "Program", .mkr "Program"]
def fa2 : List He.Fa := [.meth "Program" "__init__", .meth "Program" "__eq__", .meth "Program" "reads", .meth "Program" "keys_of", .meth "Program" "variables", .noat "Program" "body", .exc "MomentError", .exc "TooLong", .exc "TooDeep", .meth "BadStatement" "__init__", .noat "BadStatement" "path", .exm "MomentError" "BadStatement" false, .exm "MomentError" "TooLong" false, .exm "MomentError" "TooDeep" false, .exm "TooLong" "BadStatement" false, .exm "TooLong" "TooLong" true, .exm "TooLong" "TooDeep" false, .exm "TooDeep" "BadStatement" false, .exm "TooDeep" "TooLong" false, .exm "TooDeep" "TooDeep" true, .exm "BadStatement" "BadStatement" true, .exm "BadStatement" "TooLong" false, .exm "BadStatement" "TooDeep" false]
def faL : List He.Fa := fa0 ++ fa1 ++ fa2
def tsL : List He.Tab := [(fun K => He.ga K "FORMS", ["read", "set", "copy", "print", "say", "wait", "if", "same", "repeat", "stop"])]
def tab_FORMS : List (Str × He.Dv) := [("read", .str "kk"), ("set", .str "kv"), ("copy", .str "kk"), ("print", .str "k"), ("say", .str "v"), ("wait", .str ""), ("if", .str "kvbb"), ("same", .str "kkbb"), ("repeat", .str "tb"), ("stop", .str "")]
def exL : List (PySem.W.Frag → Bool) := [fun K => He.valsB K (He.ga K "FORMS") tab_FORMS, fun K => insB K "Program", fun K => kitC K "Program" "Program" true, fun K => spcB K "Program" "__eq__", fun K => oexB K (He.ga K "BadStatement"), fun K => xfB K (He.ga K "BadStatement"), fun K => He.eqO (PySem.W.nsIn K (He.ga K "FORMS") "loop") (some none)]
def exB (K : PySem.W.Frag) : Bool := exL.all fun f => f K
def nm0 : List PySem.Str := ["_wall", "MomentError", "TooLong", "TooDeep", "BadStatement", "LETTERS", "LONGEST", "GREATEST", "is_word", "is_value", "MOST", "DEEPEST", "FORMS", "is_item", "is_statement", "bodies_of", "check_body", "as_tuples", "all_statements", "depth_of", "check_size", "Program", "_law_begin", "_law_draw", "_law_values", "_law_changes", "_law_variable", "_law_plain", "_law_body", "_law_size"]
def nm1 : List PySem.Str := ["_law_prints", "_law_short", "_law_case", "_law_word_good", "_law_value_good", "_law_item_good", "_law_form", "_law_good", "_law_wrong", "_law_count", "_law_deep", "_law_spoiled", "_law_told"]
def names : List PySem.Str := nm0 ++ nm1
abbrev R : PySem.W.OpenRow := PySem.W.OpenLaw.row PySem.Challenge.rw_readmoments_k03_programs_refused
abbrev hk : PySem.W.Hook := He.hookX 5 faL fnL tsL [] exB
def ob (s : PySem.W.SharedT) : He.AlX := He.obsX 5 faL fnL tsL [] exB (HandSHeadRun.getT s)
theorem ob_eq (s : PySem.W.SharedT) : ob s = hk.obs s.abs := He.obsX_eq (HandSHeadRun.getT_eq s)
theorem run0 (w : World) : HandSHeadRun.RunEq R (PySem.W.view R.prog [47]) hk ob 4000 names (w.withFollow "special-get-raises" false) := by
  intro os
  kernel_rfl
theorem run1 (w : World) : HandSHeadRun.RunEq R (PySem.W.view R.prog [47]) hk ob 4000 names (w.withFollow "special-get-raises" true) := by
  intro os
  kernel_rfl
theorem run (w : World) : HandSHeadRun.RunEq R (PySem.W.view R.prog [47]) hk ob 4000 names w := PySem.W.byRow2 "special-get-raises" (P := fun w => HandSHeadRun.RunEq R (PySem.W.view R.prog [47]) hk ob 4000 names w) run0 run1 w
end RM

set_option Elab.async false
set_option linter.all false
set_option maxRecDepth 100000
set_option maxHeartbeats 2000000
namespace RM
open PySem PySem.Spec PyProof.Rows L2
/-- what the top has left -/
structure Top (w : World) (K : PySem.W.Frag) (mg : Str → Option Value) : Prop where
  h : ∃ hp : Heap, K.In hp ∧ hp.Ns mainGlobals mg ∧ He.SaysX faL fnL tsL [] exB w hp K
section
variable {w : World} {K : PySem.W.Frag} {mg : Str → Option Value}
theorem Top.fa (T : Top w K mg) (i : Nat) {f : He.Fa} (h : faL[i]? = some f) : f.ok K = true := let ⟨_, _, _, c⟩ := T.h; c.t.d.fact i h
theorem Top.fd (T : Top w K mg) (i : Nat) {d : He.DefD} (h : fnL[i]? = some d) : ∃ fd, FunD K d.name d.qual d.params d.body d.scope (d.dvs K) (d.kws K) (He.fAd K d.at_) fd := let ⟨_, _, _, c⟩ := T.h; c.t.d.def_ i h
theorem g_is_word (T : Top w K mg) : mg "is_word" = some (.ref (He.ga K "is_word")) := let ⟨_, X, G, _⟩ := T.h; He.glo_ok X G (T.fa 0 rfl)
theorem g_is_value (T : Top w K mg) : mg "is_value" = some (.ref (He.ga K "is_value")) := let ⟨_, X, G, _⟩ := T.h; He.glo_ok X G (T.fa 1 rfl)
theorem g_is_item (T : Top w K mg) : mg "is_item" = some (.ref (He.ga K "is_item")) := let ⟨_, X, G, _⟩ := T.h; He.glo_ok X G (T.fa 2 rfl)
theorem g_is_statement (T : Top w K mg) : mg "is_statement" = some (.ref (He.ga K "is_statement")) := let ⟨_, X, G, _⟩ := T.h; He.glo_ok X G (T.fa 3 rfl)
theorem g_bodies_of (T : Top w K mg) : mg "bodies_of" = some (.ref (He.ga K "bodies_of")) := let ⟨_, X, G, _⟩ := T.h; He.glo_ok X G (T.fa 4 rfl)
theorem g_check_body (T : Top w K mg) : mg "check_body" = some (.ref (He.ga K "check_body")) := let ⟨_, X, G, _⟩ := T.h; He.glo_ok X G (T.fa 5 rfl)
theorem g_as_tuples (T : Top w K mg) : mg "as_tuples" = some (.ref (He.ga K "as_tuples")) := let ⟨_, X, G, _⟩ := T.h; He.glo_ok X G (T.fa 6 rfl)
theorem g_all_statements (T : Top w K mg) : mg "all_statements" = some (.ref (He.ga K "all_statements")) := let ⟨_, X, G, _⟩ := T.h; He.glo_ok X G (T.fa 7 rfl)
theorem g_depth_of (T : Top w K mg) : mg "depth_of" = some (.ref (He.ga K "depth_of")) := let ⟨_, X, G, _⟩ := T.h; He.glo_ok X G (T.fa 8 rfl)
theorem g_check_size (T : Top w K mg) : mg "check_size" = some (.ref (He.ga K "check_size")) := let ⟨_, X, G, _⟩ := T.h; He.glo_ok X G (T.fa 9 rfl)
theorem g_law_begin (T : Top w K mg) : mg "_law_begin" = some (.ref (He.ga K "_law_begin")) := let ⟨_, X, G, _⟩ := T.h; He.glo_ok X G (T.fa 10 rfl)
theorem g_law_draw (T : Top w K mg) : mg "_law_draw" = some (.ref (He.ga K "_law_draw")) := let ⟨_, X, G, _⟩ := T.h; He.glo_ok X G (T.fa 11 rfl)
theorem g_law_values (T : Top w K mg) : mg "_law_values" = some (.ref (He.ga K "_law_values")) := let ⟨_, X, G, _⟩ := T.h; He.glo_ok X G (T.fa 12 rfl)
theorem g_law_changes (T : Top w K mg) : mg "_law_changes" = some (.ref (He.ga K "_law_changes")) := let ⟨_, X, G, _⟩ := T.h; He.glo_ok X G (T.fa 13 rfl)
theorem g_law_variable (T : Top w K mg) : mg "_law_variable" = some (.ref (He.ga K "_law_variable")) := let ⟨_, X, G, _⟩ := T.h; He.glo_ok X G (T.fa 14 rfl)
theorem g_law_plain (T : Top w K mg) : mg "_law_plain" = some (.ref (He.ga K "_law_plain")) := let ⟨_, X, G, _⟩ := T.h; He.glo_ok X G (T.fa 15 rfl)
theorem g_law_body (T : Top w K mg) : mg "_law_body" = some (.ref (He.ga K "_law_body")) := let ⟨_, X, G, _⟩ := T.h; He.glo_ok X G (T.fa 16 rfl)
theorem g_law_size (T : Top w K mg) : mg "_law_size" = some (.ref (He.ga K "_law_size")) := let ⟨_, X, G, _⟩ := T.h; He.glo_ok X G (T.fa 17 rfl)
theorem g_law_prints (T : Top w K mg) : mg "_law_prints" = some (.ref (He.ga K "_law_prints")) := let ⟨_, X, G, _⟩ := T.h; He.glo_ok X G (T.fa 18 rfl)
theorem g_law_short (T : Top w K mg) : mg "_law_short" = some (.ref (He.ga K "_law_short")) := let ⟨_, X, G, _⟩ := T.h; He.glo_ok X G (T.fa 19 rfl)
theorem g_law_case (T : Top w K mg) : mg "_law_case" = some (.ref (He.ga K "_law_case")) := let ⟨_, X, G, _⟩ := T.h; He.glo_ok X G (T.fa 20 rfl)
theorem g_law_word_good (T : Top w K mg) : mg "_law_word_good" = some (.ref (He.ga K "_law_word_good")) := let ⟨_, X, G, _⟩ := T.h; He.glo_ok X G (T.fa 21 rfl)
theorem g_law_value_good (T : Top w K mg) : mg "_law_value_good" = some (.ref (He.ga K "_law_value_good")) := let ⟨_, X, G, _⟩ := T.h; He.glo_ok X G (T.fa 22 rfl)
theorem g_law_item_good (T : Top w K mg) : mg "_law_item_good" = some (.ref (He.ga K "_law_item_good")) := let ⟨_, X, G, _⟩ := T.h; He.glo_ok X G (T.fa 23 rfl)
theorem g_law_form (T : Top w K mg) : mg "_law_form" = some (.ref (He.ga K "_law_form")) := let ⟨_, X, G, _⟩ := T.h; He.glo_ok X G (T.fa 24 rfl)
theorem g_law_good (T : Top w K mg) : mg "_law_good" = some (.ref (He.ga K "_law_good")) := let ⟨_, X, G, _⟩ := T.h; He.glo_ok X G (T.fa 25 rfl)
theorem g_law_wrong (T : Top w K mg) : mg "_law_wrong" = some (.ref (He.ga K "_law_wrong")) := let ⟨_, X, G, _⟩ := T.h; He.glo_ok X G (T.fa 26 rfl)
theorem g_law_count (T : Top w K mg) : mg "_law_count" = some (.ref (He.ga K "_law_count")) := let ⟨_, X, G, _⟩ := T.h; He.glo_ok X G (T.fa 27 rfl)
theorem g_law_deep (T : Top w K mg) : mg "_law_deep" = some (.ref (He.ga K "_law_deep")) := let ⟨_, X, G, _⟩ := T.h; He.glo_ok X G (T.fa 28 rfl)
theorem g_law_spoiled (T : Top w K mg) : mg "_law_spoiled" = some (.ref (He.ga K "_law_spoiled")) := let ⟨_, X, G, _⟩ := T.h; He.glo_ok X G (T.fa 29 rfl)
theorem g_law_told (T : Top w K mg) : mg "_law_told" = some (.ref (He.ga K "_law_told")) := let ⟨_, X, G, _⟩ := T.h; He.glo_ok X G (T.fa 30 rfl)
theorem g_law (T : Top w K mg) : mg "law" = some (.ref (He.ga K "law")) := let ⟨_, X, G, _⟩ := T.h; He.glo_ok X G (T.fa 31 rfl)
theorem g_MomentError (T : Top w K mg) : mg "MomentError" = some (.ref (He.ga K "MomentError")) := let ⟨_, X, G, _⟩ := T.h; He.glo_ok X G (T.fa 32 rfl)
theorem g_TooLong (T : Top w K mg) : mg "TooLong" = some (.ref (He.ga K "TooLong")) := let ⟨_, X, G, _⟩ := T.h; He.glo_ok X G (T.fa 33 rfl)
theorem g_TooDeep (T : Top w K mg) : mg "TooDeep" = some (.ref (He.ga K "TooDeep")) := let ⟨_, X, G, _⟩ := T.h; He.glo_ok X G (T.fa 34 rfl)
theorem g_BadStatement (T : Top w K mg) : mg "BadStatement" = some (.ref (He.ga K "BadStatement")) := let ⟨_, X, G, _⟩ := T.h; He.glo_ok X G (T.fa 35 rfl)
theorem g_Program (T : Top w K mg) : mg "Program" = some (.ref (He.ga K "Program")) := let ⟨_, X, G, _⟩ := T.h; He.glo_ok X G (T.fa 36 rfl)
theorem z_NotImplemented (T : Top w K mg) : mg "NotImplemented" = none := let ⟨_, X, G, _⟩ := T.h; He.free_ok X G (T.fa 37 rfl)
theorem z_all (T : Top w K mg) : mg "all" = none := let ⟨_, X, G, _⟩ := T.h; He.free_ok X G (T.fa 38 rfl)
theorem z_bool (T : Top w K mg) : mg "bool" = none := let ⟨_, X, G, _⟩ := T.h; He.free_ok X G (T.fa 39 rfl)
theorem z_enumerate (T : Top w K mg) : mg "enumerate" = none := let ⟨_, X, G, _⟩ := T.h; He.free_ok X G (T.fa 40 rfl)
theorem z_int (T : Top w K mg) : mg "int" = none := let ⟨_, X, G, _⟩ := T.h; He.free_ok X G (T.fa 41 rfl)
theorem z_isinstance (T : Top w K mg) : mg "isinstance" = none := let ⟨_, X, G, _⟩ := T.h; He.free_ok X G (T.fa 42 rfl)
theorem z_len (T : Top w K mg) : mg "len" = none := let ⟨_, X, G, _⟩ := T.h; He.free_ok X G (T.fa 43 rfl)
theorem z_list (T : Top w K mg) : mg "list" = none := let ⟨_, X, G, _⟩ := T.h; He.free_ok X G (T.fa 44 rfl)
theorem z_max (T : Top w K mg) : mg "max" = none := let ⟨_, X, G, _⟩ := T.h; He.free_ok X G (T.fa 45 rfl)
theorem z_range (T : Top w K mg) : mg "range" = none := let ⟨_, X, G, _⟩ := T.h; He.free_ok X G (T.fa 46 rfl)
theorem z_sorted (T : Top w K mg) : mg "sorted" = none := let ⟨_, X, G, _⟩ := T.h; He.free_ok X G (T.fa 47 rfl)
theorem z_str (T : Top w K mg) : mg "str" = none := let ⟨_, X, G, _⟩ := T.h; He.free_ok X G (T.fa 48 rfl)
theorem z_sum (T : Top w K mg) : mg "sum" = none := let ⟨_, X, G, _⟩ := T.h; He.free_ok X G (T.fa 49 rfl)
theorem z_tuple (T : Top w K mg) : mg "tuple" = none := let ⟨_, X, G, _⟩ := T.h; He.free_ok X G (T.fa 50 rfl)
theorem z_zip (T : Top w K mg) : mg "zip" = none := let ⟨_, X, G, _⟩ := T.h; He.free_ok X G (T.fa 51 rfl)
theorem i_LETTERS (T : Top w K mg) : ∃ t, mg "LETTERS" = some (.str "abcdefghijklmnopqrstuvwxyz" t) := let ⟨_, X, G, _⟩ := T.h; He.str_ok X G (T.fa 52 rfl)
theorem i_LONGEST (T : Top w K mg) : ∃ t, mg "LONGEST" = some (.int 6 t) := let ⟨_, X, G, _⟩ := T.h; He.int_ok X G (T.fa 53 rfl)
theorem i_GREATEST (T : Top w K mg) : ∃ t, mg "GREATEST" = some (.int 99 t) := let ⟨_, X, G, _⟩ := T.h; He.int_ok X G (T.fa 54 rfl)
theorem i_MOST (T : Top w K mg) : ∃ t, mg "MOST" = some (.int 60 t) := let ⟨_, X, G, _⟩ := T.h; He.int_ok X G (T.fa 55 rfl)
theorem i_DEEPEST (T : Top w K mg) : ∃ t, mg "DEEPEST" = some (.int 4 t) := let ⟨_, X, G, _⟩ := T.h; He.int_ok X G (T.fa 56 rfl)
theorem g_FORMS (T : Top w K mg) : mg "FORMS" = some (.ref (He.ga K "FORMS")) := let ⟨_, X, G, _⟩ := T.h; He.glo_ok X G (T.fa 57 rfl)
theorem k_Program (T : Top w K mg) : Cls K (He.ga K "Program") := He.cls_ok (T.fa 58 rfl)
theorem mk_Program (T : Top w K mg) : Mk K (He.ga K "Program") (He.ma K (He.ga K "Program") "__init__") := He.mkr_ok (T.fa 59 rfl)
theorem me_Program_init (T : Top w K mg) : Meth K (He.ga K "Program") "__init__" (He.ma K (He.ga K "Program") "__init__") := He.meth_ok (T.fa 60 rfl)
theorem me_Program_eq (T : Top w K mg) : Meth K (He.ga K "Program") "__eq__" (He.ma K (He.ga K "Program") "__eq__") := He.meth_ok (T.fa 61 rfl)
theorem me_Program_reads (T : Top w K mg) : Meth K (He.ga K "Program") "reads" (He.ma K (He.ga K "Program") "reads") := He.meth_ok (T.fa 62 rfl)
theorem me_Program_keys_of (T : Top w K mg) : Meth K (He.ga K "Program") "keys_of" (He.ma K (He.ga K "Program") "keys_of") := He.meth_ok (T.fa 63 rfl)
theorem me_Program_variables (T : Top w K mg) : Meth K (He.ga K "Program") "variables" (He.ma K (He.ga K "Program") "variables") := He.meth_ok (T.fa 64 rfl)
theorem na_Program_body (T : Top w K mg) : NoAttr K (He.ga K "Program") "body" := He.noat_ok (T.fa 65 rfl)
theorem xc_MomentError (T : Top w K mg) : PySem.W.excIn K (He.ga K "MomentError") He.veBase "ValueError.__new__" = true ∧ PySem.W.keepIn K (.ref (He.ga K "MomentError")) = true ∧ PySem.W.subIn K (.ref (He.ga K "MomentError")) (.type "BaseException") = some true ∧ PySem.W.typeIn K (.ref (He.ga K "MomentError")) = some (.type "type") := He.exc_ok (T.fa 66 rfl)
theorem xc_TooLong (T : Top w K mg) : PySem.W.excIn K (He.ga K "TooLong") He.veBase "ValueError.__new__" = true ∧ PySem.W.keepIn K (.ref (He.ga K "TooLong")) = true ∧ PySem.W.subIn K (.ref (He.ga K "TooLong")) (.type "BaseException") = some true ∧ PySem.W.typeIn K (.ref (He.ga K "TooLong")) = some (.type "type") := He.exc_ok (T.fa 67 rfl)
theorem xc_TooDeep (T : Top w K mg) : PySem.W.excIn K (He.ga K "TooDeep") He.veBase "ValueError.__new__" = true ∧ PySem.W.keepIn K (.ref (He.ga K "TooDeep")) = true ∧ PySem.W.subIn K (.ref (He.ga K "TooDeep")) (.type "BaseException") = some true ∧ PySem.W.typeIn K (.ref (He.ga K "TooDeep")) = some (.type "type") := He.exc_ok (T.fa 68 rfl)
theorem me_BadStatement_init (T : Top w K mg) : Meth K (He.ga K "BadStatement") "__init__" (He.ma K (He.ga K "BadStatement") "__init__") := He.meth_ok (T.fa 69 rfl)
theorem na_BadStatement_path (T : Top w K mg) : NoAttr K (He.ga K "BadStatement") "path" := He.noat_ok (T.fa 70 rfl)
theorem xm_MomentError_BadStatement (T : Top w K mg) : PySem.W.exmOne K (.ref (He.ga K "MomentError")) (.ref (He.ga K "BadStatement")) = some false := He.exm_ok (T.fa 71 rfl)
theorem xm_MomentError_TooLong (T : Top w K mg) : PySem.W.exmOne K (.ref (He.ga K "MomentError")) (.ref (He.ga K "TooLong")) = some false := He.exm_ok (T.fa 72 rfl)
theorem xm_MomentError_TooDeep (T : Top w K mg) : PySem.W.exmOne K (.ref (He.ga K "MomentError")) (.ref (He.ga K "TooDeep")) = some false := He.exm_ok (T.fa 73 rfl)
theorem xm_TooLong_BadStatement (T : Top w K mg) : PySem.W.exmOne K (.ref (He.ga K "TooLong")) (.ref (He.ga K "BadStatement")) = some false := He.exm_ok (T.fa 74 rfl)
theorem xm_TooLong_TooLong (T : Top w K mg) : PySem.W.exmOne K (.ref (He.ga K "TooLong")) (.ref (He.ga K "TooLong")) = some true := He.exm_ok (T.fa 75 rfl)
theorem xm_TooLong_TooDeep (T : Top w K mg) : PySem.W.exmOne K (.ref (He.ga K "TooLong")) (.ref (He.ga K "TooDeep")) = some false := He.exm_ok (T.fa 76 rfl)
theorem xm_TooDeep_BadStatement (T : Top w K mg) : PySem.W.exmOne K (.ref (He.ga K "TooDeep")) (.ref (He.ga K "BadStatement")) = some false := He.exm_ok (T.fa 77 rfl)
theorem xm_TooDeep_TooLong (T : Top w K mg) : PySem.W.exmOne K (.ref (He.ga K "TooDeep")) (.ref (He.ga K "TooLong")) = some false := He.exm_ok (T.fa 78 rfl)
theorem xm_TooDeep_TooDeep (T : Top w K mg) : PySem.W.exmOne K (.ref (He.ga K "TooDeep")) (.ref (He.ga K "TooDeep")) = some true := He.exm_ok (T.fa 79 rfl)
theorem xm_BadStatement_BadStatement (T : Top w K mg) : PySem.W.exmOne K (.ref (He.ga K "BadStatement")) (.ref (He.ga K "BadStatement")) = some true := He.exm_ok (T.fa 80 rfl)
theorem xm_BadStatement_TooLong (T : Top w K mg) : PySem.W.exmOne K (.ref (He.ga K "BadStatement")) (.ref (He.ga K "TooLong")) = some false := He.exm_ok (T.fa 81 rfl)
theorem xm_BadStatement_TooDeep (T : Top w K mg) : PySem.W.exmOne K (.ref (He.ga K "BadStatement")) (.ref (He.ga K "TooDeep")) = some false := He.exm_ok (T.fa 82 rfl)
theorem f_BadStatement_init (T : Top w K mg) : ∃ fd, FunD K "__init__" "BadStatement.__init__" (defArgs s_BadStatement_init) (defBody s_BadStatement_init) (defScope s_BadStatement_init) [] [] (He.ma K (He.ga K "BadStatement") "__init__") fd := T.fd 0 (d := d_BadStatement_init) rfl
theorem f_is_word (T : Top w K mg) : ∃ fd, FunD K "is_word" "is_word" (defArgs s_is_word) (defBody s_is_word) (defScope s_is_word) [] [] (He.ga K "is_word") fd := T.fd 1 (d := d_is_word) rfl
theorem f_is_value (T : Top w K mg) : ∃ fd, FunD K "is_value" "is_value" (defArgs s_is_value) (defBody s_is_value) (defScope s_is_value) [] [] (He.ga K "is_value") fd := T.fd 2 (d := d_is_value) rfl
theorem f_is_item (T : Top w K mg) : ∃ fd, FunD K "is_item" "is_item" (defArgs s_is_item) (defBody s_is_item) (defScope s_is_item) [] [] (He.ga K "is_item") fd := T.fd 3 (d := d_is_item) rfl
theorem f_is_statement (T : Top w K mg) : ∃ fd, FunD K "is_statement" "is_statement" (defArgs s_is_statement) (defBody s_is_statement) (defScope s_is_statement) [] [] (He.ga K "is_statement") fd := T.fd 4 (d := d_is_statement) rfl
theorem f_bodies_of (T : Top w K mg) : ∃ fd, FunD K "bodies_of" "bodies_of" (defArgs s_bodies_of) (defBody s_bodies_of) (defScope s_bodies_of) [] [] (He.ga K "bodies_of") fd := T.fd 5 (d := d_bodies_of) rfl
theorem f_check_body (T : Top w K mg) : ∃ fd, FunD K "check_body" "check_body" (defArgs s_check_body) (defBody s_check_body) (defScope s_check_body) [] [] (He.ga K "check_body") fd := T.fd 6 (d := d_check_body) rfl
theorem f_as_tuples (T : Top w K mg) : ∃ fd, FunD K "as_tuples" "as_tuples" (defArgs s_as_tuples) (defBody s_as_tuples) (defScope s_as_tuples) [] [] (He.ga K "as_tuples") fd := T.fd 7 (d := d_as_tuples) rfl
theorem f_all_statements (T : Top w K mg) : ∃ fd, FunD K "all_statements" "all_statements" (defArgs s_all_statements) (defBody s_all_statements) (defScope s_all_statements) [] [] (He.ga K "all_statements") fd := T.fd 8 (d := d_all_statements) rfl
theorem f_depth_of (T : Top w K mg) : ∃ fd, FunD K "depth_of" "depth_of" (defArgs s_depth_of) (defBody s_depth_of) (defScope s_depth_of) [] [] (He.ga K "depth_of") fd := T.fd 9 (d := d_depth_of) rfl
theorem f_check_size (T : Top w K mg) : ∃ fd, FunD K "check_size" "check_size" (defArgs s_check_size) (defBody s_check_size) (defScope s_check_size) [] [] (He.ga K "check_size") fd := T.fd 10 (d := d_check_size) rfl
theorem f_Program_init (T : Top w K mg) : ∃ fd, FunD K "__init__" "Program.__init__" (defArgs s_Program_init) (defBody s_Program_init) (defScope s_Program_init) [] [] (He.ma K (He.ga K "Program") "__init__") fd := T.fd 11 (d := d_Program_init) rfl
theorem f_Program_eq (T : Top w K mg) : ∃ fd, FunD K "__eq__" "Program.__eq__" (defArgs s_Program_eq) (defBody s_Program_eq) (defScope s_Program_eq) [] [] (He.ma K (He.ga K "Program") "__eq__") fd := T.fd 12 (d := d_Program_eq) rfl
theorem f_law_begin (T : Top w K mg) : ∃ fd, FunD K "_law_begin" "_law_begin" (defArgs s_law_begin) (defBody s_law_begin) (defScope s_law_begin) [] [] (He.ga K "_law_begin") fd := T.fd 13 (d := d_law_begin) rfl
theorem f_law_draw (T : Top w K mg) : ∃ fd, FunD K "_law_draw" "_law_draw" (defArgs s_law_draw) (defBody s_law_draw) (defScope s_law_draw) [] [] (He.ga K "_law_draw") fd := T.fd 14 (d := d_law_draw) rfl
theorem f_law_values (T : Top w K mg) : ∃ fd, FunD K "_law_values" "_law_values" (defArgs s_law_values) (defBody s_law_values) (defScope s_law_values) [] [] (He.ga K "_law_values") fd := T.fd 15 (d := d_law_values) rfl
theorem f_law_changes (T : Top w K mg) : ∃ fd, FunD K "_law_changes" "_law_changes" (defArgs s_law_changes) (defBody s_law_changes) (defScope s_law_changes) [] [] (He.ga K "_law_changes") fd := T.fd 16 (d := d_law_changes) rfl
theorem f_law_variable (T : Top w K mg) : ∃ fd, FunD K "_law_variable" "_law_variable" (defArgs s_law_variable) (defBody s_law_variable) (defScope s_law_variable) [] [] (He.ga K "_law_variable") fd := T.fd 17 (d := d_law_variable) rfl
theorem f_law_plain (T : Top w K mg) : ∃ fd, FunD K "_law_plain" "_law_plain" (defArgs s_law_plain) (defBody s_law_plain) (defScope s_law_plain) [] [] (He.ga K "_law_plain") fd := T.fd 18 (d := d_law_plain) rfl
theorem f_law_body (T : Top w K mg) : ∃ fd, FunD K "_law_body" "_law_body" (defArgs s_law_body) (defBody s_law_body) (defScope s_law_body) [] [] (He.ga K "_law_body") fd := T.fd 19 (d := d_law_body) rfl
theorem f_law_size (T : Top w K mg) : ∃ fd, FunD K "_law_size" "_law_size" (defArgs s_law_size) (defBody s_law_size) (defScope s_law_size) [] [] (He.ga K "_law_size") fd := T.fd 20 (d := d_law_size) rfl
theorem f_law_prints (T : Top w K mg) : ∃ fd, FunD K "_law_prints" "_law_prints" (defArgs s_law_prints) (defBody s_law_prints) (defScope s_law_prints) [] [] (He.ga K "_law_prints") fd := T.fd 21 (d := d_law_prints) rfl
theorem f_law_short (T : Top w K mg) : ∃ fd, FunD K "_law_short" "_law_short" (defArgs s_law_short) (defBody s_law_short) (defScope s_law_short) [] [] (He.ga K "_law_short") fd := T.fd 22 (d := d_law_short) rfl
theorem f_law_case (T : Top w K mg) : ∃ fd, FunD K "_law_case" "_law_case" (defArgs s_law_case) (defBody s_law_case) (defScope s_law_case) [] [] (He.ga K "_law_case") fd := T.fd 23 (d := d_law_case) rfl
theorem f_law_word_good (T : Top w K mg) : ∃ fd, FunD K "_law_word_good" "_law_word_good" (defArgs s_law_word_good) (defBody s_law_word_good) (defScope s_law_word_good) [] [] (He.ga K "_law_word_good") fd := T.fd 24 (d := d_law_word_good) rfl
theorem f_law_value_good (T : Top w K mg) : ∃ fd, FunD K "_law_value_good" "_law_value_good" (defArgs s_law_value_good) (defBody s_law_value_good) (defScope s_law_value_good) [] [] (He.ga K "_law_value_good") fd := T.fd 25 (d := d_law_value_good) rfl
theorem f_law_item_good (T : Top w K mg) : ∃ fd, FunD K "_law_item_good" "_law_item_good" (defArgs s_law_item_good) (defBody s_law_item_good) (defScope s_law_item_good) [] [] (He.ga K "_law_item_good") fd := T.fd 26 (d := d_law_item_good) rfl
theorem f_law_form (T : Top w K mg) : ∃ fd, FunD K "_law_form" "_law_form" (defArgs s_law_form) (defBody s_law_form) (defScope s_law_form) [] [] (He.ga K "_law_form") fd := T.fd 27 (d := d_law_form) rfl
theorem f_law_good (T : Top w K mg) : ∃ fd, FunD K "_law_good" "_law_good" (defArgs s_law_good) (defBody s_law_good) (defScope s_law_good) [] [] (He.ga K "_law_good") fd := T.fd 28 (d := d_law_good) rfl
theorem f_law_wrong (T : Top w K mg) : ∃ fd, FunD K "_law_wrong" "_law_wrong" (defArgs s_law_wrong) (defBody s_law_wrong) (defScope s_law_wrong) [] [] (He.ga K "_law_wrong") fd := T.fd 29 (d := d_law_wrong) rfl
theorem f_law_count (T : Top w K mg) : ∃ fd, FunD K "_law_count" "_law_count" (defArgs s_law_count) (defBody s_law_count) (defScope s_law_count) [] [] (He.ga K "_law_count") fd := T.fd 30 (d := d_law_count) rfl
theorem f_law_deep (T : Top w K mg) : ∃ fd, FunD K "_law_deep" "_law_deep" (defArgs s_law_deep) (defBody s_law_deep) (defScope s_law_deep) [] [] (He.ga K "_law_deep") fd := T.fd 31 (d := d_law_deep) rfl
theorem f_law_spoiled (T : Top w K mg) : ∃ fd, FunD K "_law_spoiled" "_law_spoiled" (defArgs s_law_spoiled) (defBody s_law_spoiled) (defScope s_law_spoiled) [] [] (He.ga K "_law_spoiled") fd := T.fd 32 (d := d_law_spoiled) rfl
theorem f_law_told (T : Top w K mg) : ∃ fd, FunD K "_law_told" "_law_told" (defArgs s_law_told) (defBody s_law_told) (defScope s_law_told) [] [] (He.ga K "_law_told") fd := T.fd 33 (d := d_law_told) rfl
theorem f_law (T : Top w K mg) : ∃ fd, FunD K "law" "law" (defArgs s_law) (defBody s_law) (defScope s_law) [] [] (He.ga K "law") fd := T.fd 34 (d := d_law) rfl
theorem t_FORMS (T : Top w K mg) : ∃ es m, KDict K w (He.ga K "FORMS") es m := let ⟨_, _, _, c⟩ := T.h; c.t.tab 0 (t := (fun K => He.ga K "FORMS", ["read", "set", "copy", "print", "say", "wait", "if", "same", "repeat", "stop"])) rfl
theorem Top.ex (T : Top w K mg) (i : Nat) {f : PySem.W.Frag → Bool} (h : exL[i]? = some f) : f K = true := let ⟨_, _, _, c⟩ := T.h; List.all_eq_true.mp c.more f (List.mem_of_getElem? h)
theorem v_FORMS (T : Top w K mg) : He.valsB K (He.ga K "FORMS") tab_FORMS = true := T.ex 0 rfl
theorem ins_Program (T : Top w K mg) : insB K "Program" = true := T.ex 1 rfl
theorem kit_Program_Program (T : Top w K mg) : kitC K "Program" "Program" true = true := T.ex 2 rfl
theorem spc_Program_eq (T : Top w K mg) : spcB K "Program" "__eq__" = true := T.ex 3 rfl
theorem oex_BadStatement (T : Top w K mg) : oexB K (He.ga K "BadStatement") = true := T.ex 4 rfl
theorem xf_BadStatement (T : Top w K mg) : xfB K (He.ga K "BadStatement") = true := T.ex 5 rfl
theorem no_loop (T : Top w K mg) : He.eqO (PySem.W.nsIn K (He.ga K "FORMS") "loop") (some none) = true := T.ex 6 rfl
end
end RM

set_option Elab.async false
set_option linter.all false
set_option maxRecDepth 100000
set_option maxHeartbeats 2000000
namespace RM
open PySem PySem.Spec PyProof.Rows L2
/-! ### the draws: a list of four at d, apart from all else -/
def Hd4 (H : Hp) (d sc : Addr) : Prop := ∃ (p q r : Int), H d = some (.lst [.ref sc, .int p, .int q, .int r]) ∧ 0 ≤ p
def Scr (K : PySem.W.Frag) (H : Hp) (sc : Addr) : Prop := ∃ xs : List Int, SqL K H sc (xs.map V.int)
def DrawAt (K : PySem.W.Frag) (H : Hp) (d sc : Addr) : Prop := Hd4 H d sc ∧ Scr K (del H d) sc
/-- all but d is kept -/
def But (d : Addr) (H H' : Hp) : Prop := Same (del H d) (del H' d)
theorem But.refl (d : Addr) (H : Hp) : But d H H := Same.refl _
theorem But.trans {d : Addr} {H H1 H2 : Hp} (a : But d H H1) (b : But d H1 H2) : But d H H2 := Same.trans a b
theorem del_sm (H : Hp) (d : Addr) : Same (del H d) H := fun b u z => by
  by_cases hb : b = d
  · rw [hb, del_same] at z
    cases z
  · rwa [del_ne hb] at z
theorem but_upd (d : Addr) (H : Hp) (o : HO) : But d H (upd H d o) := fun b u z => by
  by_cases hb : b = d
  · rw [hb, del_same] at z
    cases z
  · rw [del_ne hb] at z ⊢
    rw [upd_ne hb]
    exact z
theorem but_sm {d : Addr} {H H' : Hp} (e : Same H H') : But d H H' := fun b u z => by
  by_cases hb : b = d
  · rw [hb, del_same] at z
    cases z
  · rw [del_ne hb] at z ⊢
    exact e _ _ z
theorem But.get {d b : Addr} {H H' : Hp} {o : HO} (e : But d H H') (hb : b ≠ d) (h : H b = some o) : H' b = some o := by
  have := e b o (by rw [del_ne hb]; exact h)
  rwa [del_ne hb] at this
theorem Scr.keep {K : PySem.W.Frag} {H H' : Hp} {sc : Addr} (e : Same H H') (h : Scr K H sc) : Scr K H' sc := let ⟨xs, h⟩ := h; ⟨xs, e.seq h⟩
theorem Hd4.keep {H H' : Hp} {d sc : Addr} (e : Same H H') (h : Hd4 H d sc) : Hd4 H' d sc := let ⟨p, q, r, h, z⟩ := h; ⟨p, q, r, e _ _ h, z⟩
theorem DrawAt.keep {K : PySem.W.Frag} {H H' : Hp} {d sc : Addr} (e : Same H H') (h : DrawAt K H d sc) : DrawAt K H' d sc := ⟨h.1.keep e, h.2.keep (but_sm e)⟩
theorem DrawAt.set {K : PySem.W.Frag} {H : Hp} {d sc : Addr} {xs : List Int} (h2 : SqL K (del H d) sc (xs.map V.int)) {p : Int} (h3 : 0 ≤ p) (q r : Int) : DrawAt K (upd H d (.lst [.ref sc, .int p, .int q, .int r])) d sc :=
  ⟨⟨p, q, r, upd_same, h3⟩, xs, (but_upd d H _).seq h2⟩
theorem Hd4.ne {H : Hp} {d sc : Addr} (h : Hd4 H d sc) : H d ≠ none := by
  obtain ⟨p, q, r, h, _⟩ := h
  rw [h]
  exact fun z => nomatch z
/-! ### what is new since H0 -/
def nw (H0 H : Hp) : Hp := fun b => match H0 b with
  | none => H b
  | some _ => none
theorem nw_new {H0 H : Hp} {b : Addr} (h : H0 b = none) : nw H0 H b = H b := by
  unfold nw
  rw [h]
theorem nw_some {H0 H : Hp} {b : Addr} {u : HO} (h : nw H0 H b = some u) : H0 b = none ∧ H b = some u := by
  unfold nw at h
  cases e : H0 b with
  | none => rw [e] at h; exact ⟨rfl, h⟩
  | some v => rw [e] at h; cases h
theorem nw_sm (H0 H : Hp) : Same (nw H0 H) H := fun b u z => (nw_some z).2
/-- all of H0 stands in H -/
def Gro (H0 H : Hp) : Prop := ∀ b, H b = none → H0 b = none
theorem Gro.refl (H : Hp) : Gro H H := fun _ h => h
theorem Gro.trans {H0 H1 H2 : Hp} (a : Gro H0 H1) (b : Gro H1 H2) : Gro H0 H2 := fun c h => a c (b c h)
theorem gro_sm {H0 H : Hp} (e : Same H0 H) : Gro H0 H := fun b h => e.free h
theorem gro_upd {H : Hp} {p : Addr} {o : HO} : Gro H (upd H p o) := fun b h => by
  by_cases hb : b = p
  · rw [hb, upd_same] at h
    cases h
  · rwa [upd_ne hb] at h
theorem gro_but {d : Addr} {H0 H : Hp} (e : But d H0 H) (hd : H d ≠ none) : Gro H0 H := fun b h => by
  by_cases hb : b = d
  · rw [hb] at h
    exact absurd h hd
  · cases z : H0 b with
    | none => rfl
    | some u =>
      rw [e.get hb z] at h
      cases h
theorem nw_but {d : Addr} {H0 H H' : Hp} (e : But d H H') (h0 : H0 d ≠ none) : Same (nw H0 H) (nw H0 H') := fun b u z => by
  obtain ⟨z1, z2⟩ := nw_some z
  rw [nw_new z1]
  exact e.get (fun q => h0 (by rw [← q]; exact z1)) z2
theorem nw_keep {H0 H H' : Hp} (e : Same H H') : Same (nw H0 H) (nw H0 H') := fun b u z => by
  obtain ⟨z1, z2⟩ := nw_some z
  rw [nw_new z1]
  exact e _ _ z2
theorem nw_back {H0 H1 H : Hp} (g : Gro H0 H1) : Same (nw H1 H) (nw H0 H) := fun b u z => by
  obtain ⟨z1, z2⟩ := nw_some z
  rw [nw_new (g _ z1)]
  exact z2
/-- what is new since H1 isn't p, that stood in H1 -/
theorem nw_del {H1 H : Hp} {p : Addr} (h : H1 p ≠ none) : Same (nw H1 H) (del (nw H1 H) p) := fun b u z => by
  rw [del_ne fun q => h (by rw [← q]; exact (nw_some z).1)]
  exact z
theorem del_mono {p : Addr} {H H' : Hp} (e : Same H H') : Same (del H p) (del H' p) := but_sm e
section
variable {P : Program} {w : World} {K : PySem.W.Frag} {mg : Str → Option Value} {base : Heap}
def spBegin (K : PySem.W.Frag) : Sp := fun vs H Q _ => match vs with
  | [x] => ∃ (a : Addr) (xs : List Int), x = .ref a ∧ SqL K H a (xs.map V.int) ∧ ∀ d sc H', Same H H' → H d = none → DrawAt K H' d sc → Q (.ref d) H'
  | _ => False
theorem sc_law_begin : FnScope ["_law_script"] ["_law_script"] (defScope s_law_begin) := ⟨rfl, rfl, rfl, by decide +kernel, rfl, by decide +kernel, by decide +kernel⟩
theorem c_law_begin (T : Top w K mg) : Cal P w K mg base CX0 1 "_law_begin" (spBegin K) := by
  refine cal_0 (f_law_begin T) (g_law_begin T) sc_law_begin (fun _ _ _ _ _ _ us hl => match us, hl with | [_], _ => rfl) (fun vs H Q E h => match vs, h with | [_], _ => rfl) (fun cdv A outer s H vs Q E hr h => ?_)
  match vs, h with
  | [x], h =>
  obtain ⟨a, xs, rfl, ha, q⟩ := h
  refine ⟨_, (pss_one (ps_ret (pe_lst (pa_cons (pct (z_list T) call_list_of boot_list (pa_cons (pv 0) pa_nil)) (pa_cons pe_int (pa_cons pe_int (pa_cons pe_int pa_nil))))))), ?_⟩
  refine ⟨_, rfl, a, _, rfl, .inl ha, fun sc hsc => ?_⟩
  refine ⟨(by show 4 ≤ sizeLine; decide), fun d hd => ?_⟩
  have s1 : Same H (upd H sc (.lst (xs.map V.int))) := smNew1 hsc _
  refine q d sc _ (smNew s1 hd _) (s1.free hd) ⟨⟨0, 0, 7, upd_same, Int.le_refl 0⟩, xs, ?_⟩
  refine SqL.of ?_
  have hne : sc ≠ d := fun e => by
    rw [← e, upd_same] at hd
    cases hd
  rw [del_ne hne, upd_ne hne]
  exact upd_same
/-! ### _law_draw -/
def spDraw (K : PySem.W.Frag) : Sp := fun vs H Q _ => match vs with
  | [x, y] => ∃ d sc m, x = .ref d ∧ y = .int m ∧ DrawAt K H d sc ∧ 0 < m ∧ m < 1000000 ∧ ∀ r H', 0 ≤ r → r < m → But d H H' → DrawAt K H' d sc → Q (.int r) H'
  | _ => False
theorem sc_law_draw : FnScope ["_law_draws", "_law_many", "_law_cell", "_law_found"] ["_law_draws", "_law_many"] (defScope s_law_draw) := ⟨rfl, rfl, rfl, by decide +kernel, rfl, by decide +kernel, by decide +kernel⟩
theorem c_law_draw (T : Top w K mg) : Cal P w K mg base CX0 1 "_law_draw" (spDraw K) := by
  refine cal_0 (f_law_draw T) (g_law_draw T) sc_law_draw (fun _ _ _ _ _ _ us hl => match us, hl with | [_, _], _ => rfl) (fun vs H Q E h => match vs, h with | [_, _], _ => rfl) (fun cdv A outer s H vs Q E hr h => ?_)
  match vs, h with
  | [x, y], h =>
  obtain ⟨d, sc, m, rfl, rfl, ⟨⟨p, q0, r, hd, hp⟩, xs, hs⟩, m0, m1, q⟩ := h
  refine ⟨_, (pss_cons (ps_if (pt_cmpR op_eq (pe_ix ix_list (pv 0) pe_int (fun _ _ => rfl)) pe_int (nomark _))
      (pss_one (ps_if (pt_cmpR op_lt (pe_ix ix_list (pv 0) pe_int (fun _ _ => rfl)) (pcb (z_len T) call_len_seq boot_len (pa_cons (pe_ix ix_list (pv 0) pe_int (fun _ _ => rfl)) pa_nil)) (nomark _))
      (pss_cons (ps_set (i := 2) sc_law_draw.nd rfl (Or.inl rfl) (pe_ix ix_list (pe_ix ix_list (pv 0) pe_int (fun _ _ => rfl)) (pe_ix ix_list (pv 0) pe_int (fun _ _ => rfl)) (fun _ _ => rfl)))
    (pss_cons (ps_asg (pe_op op_add (pe_ix ix_list (pv 0) pe_int (fun _ _ => rfl)) pe_int) (pg_sub (pv 0) pe_int set_list))
    (pss_one (ps_if (pt_cmpR op_ge (pv 2) (pe_op op_pow pe_int pe_int) (nomark _))
      (pss_one (ps_asg (pv 2) (pg_sub (pv 0) pe_int set_list)))
      (pss_one (ps_asg (pe_op op_mod (pct (z_int T) call_int1 boot_int (pa_cons (pe_op op_add (pe_op op_add (pe_op op_mul (pe_ix ix_list (pv 0) pe_int (fun _ _ => rfl)) pe_int) (pe_op op_mul (pv 2) pe_int)) pe_int) pa_nil)) pe_int) (pg_sub (pv 0) pe_int set_list)))))))
      (pss_one (ps_asg (pe_op op_mod (pct (z_int T) call_int1 boot_int (pa_cons (pe_op op_add (pe_op op_mul (pe_ix ix_list (pv 0) pe_int (fun _ _ => rfl)) pe_int) pe_int) pa_nil)) pe_int) (pg_sub (pv 0) pe_int set_list)))))
      pss_nil)
    (pss_cons (ps_if (pt_cmpR op_gt (pe_ix ix_list (pv 0) pe_int (fun _ _ => rfl)) pe_int (nomark _))
      (pss_cons (ps_set (i := 3) sc_law_draw.nd rfl (Or.inl rfl) (pe_op op_mod (pct (z_int T) call_int1 boot_int (pa_cons (pe_ix ix_list (pv 0) pe_int (fun _ _ => rfl)) pa_nil)) (pv 1)))
    (pss_cons (ps_asg (pe_op op_fdiv (pe_ix ix_list (pv 0) pe_int (fun _ _ => rfl)) (pv 1)) (pg_sub (pv 0) pe_int set_list))
    (pss_one (ps_ret (pv 3)))))
      pss_nil)
    (pss_one (ps_ret (pe_op op_mod (pe_op op_mod (pct (z_int T) call_int1 boot_int (pa_cons (pe_op op_mul (pe_ix ix_list (pv 0) pe_int (fun _ _ => rfl)) pe_int) pa_nil)) pe_int) (pv 1)))))), ?_⟩
  have hs0 : SqL K H sc (xs.map V.int) := (del_sm H d).seq hs
  refine ⟨_, rfl, _, _, _, _, rfl, rfl, SqL.of hd, at2, rfl, _, rfl, ?_⟩
  refine ifB (fun hq => ?_) (fun hq => ?_)
  · refine ⟨_, rfl, _, _, _, _, rfl, rfl, SqL.of hd, at1, ?_⟩
    refine ⟨_, rfl, _, _, _, _, rfl, rfl, SqL.of hd, at0, _, _, rfl, .inl hs0, ?_⟩
    refine ⟨_, _, rfl, rfl, _, rfl, ?_⟩
    refine ifB (fun hl => ?_) (fun hl => ?_)
    · have hl1 : p < ((xs.map V.int).length : Nat) := of_decide_eq_true hl
      rw [List.length_map] at hl1
      obtain ⟨k, rfl⟩ : ∃ k : Nat, p = k := ⟨p.toNat, by omega⟩
      have hk : k < xs.length := by omega
      -- the cell
      refine ⟨_, rfl, _, _, _, _, rfl, rfl, SqL.of hd, at0, ?_⟩
      refine ⟨_, rfl, _, _, _, _, rfl, rfl, SqL.of hd, at1, ?_⟩
      refine ⟨_, _, _, V.int xs[k], rfl, rfl, hs0, atI_nat (by rw [List.getElem?_map, List.getElem?_eq_getElem hk]; rfl), ?_⟩
      -- the place
      refine ⟨_, rfl, _, _, _, _, rfl, rfl, SqL.of hd, at1, ?_⟩
      refine ⟨_, _, rfl, rfl, ?_⟩
      refine ⟨_, rfl, d, _, _, 1, rfl, rfl, hd, rfl, ?_⟩
      obtain ⟨H1, e1, hd1, hs1, bt1⟩ : ∃ H1, H1 = upd H d (.lst [.ref sc, .int ((k : Int) + 1), .int q0, .int r]) ∧ H1 d = some (.lst [.ref sc, .int ((k : Int) + 1), .int q0, .int r]) ∧ SqL K (del H1 d) sc (xs.map V.int) ∧ But d H H1 := ⟨_, rfl, upd_same, (but_upd d H _).seq hs, but_upd d H _⟩
      have e1' : upd H d (.lst ([V.ref sc, .int k, .int q0, .int r].set 1 (.int ((k : Int) + 1)))) = H1 := e1.symm
      rw [e1']
      have hp2 : (0 : Int) ≤ (k : Int) + 1 := by omega
      refine ⟨_, rfl, _, _, rfl, rfl, ⟨by decide, by decide, by decide⟩, ?_⟩
      refine ⟨_, _, rfl, rfl, _, rfl, ?_⟩
      refine ifB (fun hc => ?_) (fun hc => ?_)
      · refine ⟨_, rfl, _, rfl, d, _, _, 2, rfl, rfl, hd1, rfl, ?_⟩
        obtain ⟨H2, e2, hd2, hs2, bt⟩ : ∃ H2, H2 = upd H1 d (.lst [.ref sc, .int ((k : Int) + 1), .int xs[k], .int r]) ∧ H2 d = some (.lst [.ref sc, .int ((k : Int) + 1), .int xs[k], .int r]) ∧ SqL K (del H2 d) sc (xs.map V.int) ∧ But d H H2 := ⟨_, rfl, upd_same, (but_upd d H1 _).seq hs1, bt1.trans (but_upd d H1 _)⟩
        have e2' : upd H1 d (.lst ([V.ref sc, .int ((k : Int) + 1), .int q0, .int r].set 2 (.int xs[k]))) = H2 := e2.symm
        rw [e2']
        refine ⟨_, rfl, _, _, _, _, rfl, rfl, SqL.of hd2, at2, _, _, rfl, rfl, _, rfl, ?_⟩
        refine ifB (fun hq2 => ?_) (fun hq2 => ?_)
        · refine ⟨_, rfl, _, _, _, _, rfl, rfl, SqL.of hd2, at2, .inl ⟨_, rfl, ?_⟩⟩
          refine ⟨_, rfl, _, _, rfl, rfl, m0, ?_⟩
          refine ⟨_, rfl, _, _, _, _, rfl, rfl, SqL.of hd2, at2, ?_⟩
          refine ⟨_, rfl, _, _, rfl, rfl, ⟨m0, by omega⟩, ?_⟩
          refine ⟨_, rfl, d, _, _, 2, rfl, rfl, hd2, rfl, ?_⟩
          refine ⟨_, rfl, ?_⟩
          exact q _ _ (Int.emod_nonneg _ (by omega)) (Int.emod_lt_of_pos _ m0) (bt.trans (but_upd d _ _)) (DrawAt.set hs2 hp2 _ _)
        · refine ⟨_, rfl, _, _, _, _, rfl, rfl, SqL.of hd2, at3, ?_⟩
          refine ⟨_, _, rfl, rfl, .inr (by decide), .inl ⟨_, rfl, ?_⟩⟩
          refine ⟨_, _, rfl, rfl, (by show (0 : Int) < _; decide), ?_⟩
          refine ⟨_, rfl, _, _, rfl, rfl, m0, ?_⟩
          exact q _ _ (Int.emod_nonneg _ (by omega)) (Int.emod_lt_of_pos _ m0) bt ⟨⟨_, _, _, hd2, hp2⟩, _, hs2⟩
      · refine ⟨_, rfl, _, _, _, _, rfl, rfl, SqL.of hd1, at3, ?_⟩
        refine ⟨_, _, rfl, rfl, .inr (by decide), ?_⟩
        refine ⟨_, rfl, _, _, rfl, rfl, .inr (by decide), ?_⟩
        refine ⟨_, _, rfl, rfl, _, _, rfl, rfl, .inl ⟨_, rfl, ?_⟩⟩
        refine ⟨_, _, rfl, rfl, (by show (0 : Int) < _; decide), ?_⟩
        refine ⟨_, rfl, d, _, _, 3, rfl, rfl, hd1, rfl, ?_⟩
        obtain ⟨H2, e2, hd2, hs2, bt⟩ : ∃ H2, H2 = upd H1 d (.lst [.ref sc, .int ((k : Int) + 1), .int q0, .int ((r * 48271 + xs[k] * 69621 + 11) % 2147483647)]) ∧ H2 d = some (.lst [.ref sc, .int ((k : Int) + 1), .int q0, .int ((r * 48271 + xs[k] * 69621 + 11) % 2147483647)]) ∧ SqL K (del H2 d) sc (xs.map V.int) ∧ But d H H2 := ⟨_, rfl, upd_same, (but_upd d H1 _).seq hs1, bt1.trans (but_upd d H1 _)⟩
        have e2' : upd H1 d (.lst ([V.ref sc, .int ((k : Int) + 1), .int q0, .int r].set 3 (.int ((r * 48271 + xs[k] * 69621 + 11) % 2147483647)))) = H2 := e2.symm
        rw [e2']
        refine ⟨_, rfl, _, _, _, _, rfl, rfl, SqL.of hd2, at2, _, _, rfl, rfl, _, rfl, ?_⟩
        refine ifB (fun hq2 => ?_) (fun hq2 => ?_)
        · refine ⟨_, rfl, _, _, _, _, rfl, rfl, SqL.of hd2, at2, .inl ⟨_, rfl, ?_⟩⟩
          refine ⟨_, rfl, _, _, rfl, rfl, m0, ?_⟩
          refine ⟨_, rfl, _, _, _, _, rfl, rfl, SqL.of hd2, at2, ?_⟩
          refine ⟨_, rfl, _, _, rfl, rfl, ⟨m0, by omega⟩, ?_⟩
          refine ⟨_, rfl, d, _, _, 2, rfl, rfl, hd2, rfl, ?_⟩
          refine ⟨_, rfl, ?_⟩
          exact q _ _ (Int.emod_nonneg _ (by omega)) (Int.emod_lt_of_pos _ m0) (bt.trans (but_upd d _ _)) (DrawAt.set hs2 hp2 _ _)
        · refine ⟨_, rfl, _, _, _, _, rfl, rfl, SqL.of hd2, at3, ?_⟩
          refine ⟨_, _, rfl, rfl, .inr (by decide), .inl ⟨_, rfl, ?_⟩⟩
          refine ⟨_, _, rfl, rfl, (by show (0 : Int) < _; decide), ?_⟩
          refine ⟨_, rfl, _, _, rfl, rfl, m0, ?_⟩
          exact q _ _ (Int.emod_nonneg _ (by omega)) (Int.emod_lt_of_pos _ m0) bt ⟨⟨_, _, _, hd2, hp2⟩, _, hs2⟩
    · refine ⟨_, rfl, _, _, _, _, rfl, rfl, SqL.of hd, at3, ?_⟩
      refine ⟨_, _, rfl, rfl, .inr (by decide), ?_⟩
      refine ⟨_, _, rfl, rfl, .inl ⟨_, rfl, ?_⟩⟩
      refine ⟨_, _, rfl, rfl, (by show (0 : Int) < _; decide), ?_⟩
      refine ⟨_, rfl, d, _, _, 3, rfl, rfl, hd, rfl, ?_⟩
      have hp2 := hp
      obtain ⟨H2, e2, hd2, hs2, bt⟩ : ∃ H2, H2 = upd H d (.lst [.ref sc, .int p, .int q0, .int ((r * 48271 + 7) % 2147483647)]) ∧ H2 d = some (.lst [.ref sc, .int p, .int q0, .int ((r * 48271 + 7) % 2147483647)]) ∧ SqL K (del H2 d) sc (xs.map V.int) ∧ But d H H2 := ⟨_, rfl, upd_same, (but_upd d H _).seq hs, but_upd d H _⟩
      have e2' : upd H d (.lst ([V.ref sc, .int p, .int q0, .int r].set 3 (.int ((r * 48271 + 7) % 2147483647)))) = H2 := e2.symm
      rw [e2']
      refine ⟨_, rfl, _, _, _, _, rfl, rfl, SqL.of hd2, at2, _, _, rfl, rfl, _, rfl, ?_⟩
      refine ifB (fun hq2 => ?_) (fun hq2 => ?_)
      · refine ⟨_, rfl, _, _, _, _, rfl, rfl, SqL.of hd2, at2, .inl ⟨_, rfl, ?_⟩⟩
        refine ⟨_, rfl, _, _, rfl, rfl, m0, ?_⟩
        refine ⟨_, rfl, _, _, _, _, rfl, rfl, SqL.of hd2, at2, ?_⟩
        refine ⟨_, rfl, _, _, rfl, rfl, ⟨m0, by omega⟩, ?_⟩
        refine ⟨_, rfl, d, _, _, 2, rfl, rfl, hd2, rfl, ?_⟩
        refine ⟨_, rfl, ?_⟩
        exact q _ _ (Int.emod_nonneg _ (by omega)) (Int.emod_lt_of_pos _ m0) (bt.trans (but_upd d _ _)) (DrawAt.set hs2 hp2 _ _)
      · refine ⟨_, rfl, _, _, _, _, rfl, rfl, SqL.of hd2, at3, ?_⟩
        refine ⟨_, _, rfl, rfl, .inr (by decide), .inl ⟨_, rfl, ?_⟩⟩
        refine ⟨_, _, rfl, rfl, (by show (0 : Int) < _; decide), ?_⟩
        refine ⟨_, rfl, _, _, rfl, rfl, m0, ?_⟩
        exact q _ _ (Int.emod_nonneg _ (by omega)) (Int.emod_lt_of_pos _ m0) bt ⟨⟨_, _, _, hd2, hp2⟩, _, hs2⟩
  · have hd2 := hd
    have hs2 := hs
    have hp2 := hp
    have bt := But.refl d H
    refine ⟨_, rfl, _, _, _, _, rfl, rfl, SqL.of hd2, at2, _, _, rfl, rfl, _, rfl, ?_⟩
    refine ifB (fun hq2 => ?_) (fun hq2 => ?_)
    · refine ⟨_, rfl, _, _, _, _, rfl, rfl, SqL.of hd2, at2, .inl ⟨_, rfl, ?_⟩⟩
      refine ⟨_, rfl, _, _, rfl, rfl, m0, ?_⟩
      refine ⟨_, rfl, _, _, _, _, rfl, rfl, SqL.of hd2, at2, ?_⟩
      refine ⟨_, rfl, _, _, rfl, rfl, ⟨m0, by omega⟩, ?_⟩
      refine ⟨_, rfl, d, _, _, 2, rfl, rfl, hd2, rfl, ?_⟩
      refine ⟨_, rfl, ?_⟩
      exact q _ _ (Int.emod_nonneg _ (by omega)) (Int.emod_lt_of_pos _ m0) (bt.trans (but_upd d _ _)) (DrawAt.set hs2 hp2 _ _)
    · refine ⟨_, rfl, _, _, _, _, rfl, rfl, SqL.of hd2, at3, ?_⟩
      refine ⟨_, _, rfl, rfl, .inr (by decide), .inl ⟨_, rfl, ?_⟩⟩
      refine ⟨_, _, rfl, rfl, (by show (0 : Int) < _; decide), ?_⟩
      refine ⟨_, rfl, _, _, rfl, rfl, m0, ?_⟩
      exact q _ _ (Int.emod_nonneg _ (by omega)) (Int.emod_lt_of_pos _ m0) bt ⟨⟨_, _, _, hd2, hp2⟩, _, hs2⟩
end
end RM

set_option Elab.async false
set_option linter.all false
set_option maxRecDepth 100000
set_option maxHeartbeats 2000000
namespace RM
open PySem PySem.Spec PyProof.Rows L2
theorem nw_obj {H0 H1 : Hp} {p : Addr} {o : HO} (hp : H1 p = none) (g : Gro H0 H1) : nw H0 (upd H1 p o) p = some o := by
  rw [nw_new (g p hp)]
  exact upd_same
theorem draw_of {r m : Int} (h0 : 0 ≤ r) (h1 : r < m) : ∃ k : Nat, r = k ∧ (k : Int) < m := ⟨r.toNat, by omega, by omega⟩
section
variable {P : Program} {w : World} {K : PySem.W.Frag} {mg : Str → Option Value} {base : Heap}
def spVar (K : PySem.W.Frag) : Sp := fun vs H Q _ => match vs with
  | [x] => ∃ d sc, x = .ref d ∧ DrawAt K H d sc ∧ ∀ z H', isWord z = true → But d H H' → DrawAt K H' d sc → Q (.str z) H'
  | _ => False
theorem sc_law_variable : FnScope ["_law_draws"] ["_law_draws"] (defScope s_law_variable) := ⟨rfl, rfl, rfl, by decide +kernel, rfl, by decide +kernel, by decide +kernel⟩
theorem vars_word : ∀ z ∈ (["x", "y", "a", "b"] : List Str), isWord z = true := by decide +kernel
theorem c_law_variable (T : Top w K mg) : Cal P w K mg base CX0 2 "_law_variable" (spVar K) := by
  refine cal_0 (f_law_variable T) (g_law_variable T) sc_law_variable (fun _ _ _ _ _ _ us hl => match us, hl with | [_], _ => rfl) (fun vs H Q E h => match vs, h with | [_], _ => rfl) (fun cdv A outer s H vs Q E hr h => ?_)
  match vs, h with
  | [x], h =>
  obtain ⟨d, sc, rfl, hd, q⟩ := h
  refine ⟨_, (pss_one (ps_ret (pe_ix ix_list (pe_lst (pa_cons pe_str (pa_cons pe_str (pa_cons pe_str (pa_cons pe_str pa_nil))))) (pc (c_law_draw T) hr (pa_cons (pv 0) (pa_cons pe_int pa_nil))) (fun _ _ => rfl)))), ?_⟩
  refine ⟨(by show 4 ≤ sizeLine; decide), fun p hp => ?_⟩
  have s1 : Same H (upd H p (.lst [.str "x", .str "y", .str "a", .str "b"])) := smNew1 hp _
  refine ⟨_, rfl, d, sc, 4, rfl, rfl, hd.keep s1, by decide, by decide, fun r H' r0 r1 bt hd' => ?_⟩
  have hne : p ≠ d := fun e => hd.1.ne (by rw [← e]; exact hp)
  obtain ⟨k, rfl, hk⟩ := draw_of r0 r1
  have hk4 : k < 4 := by omega
  have ha : atI ([V.str "x", V.str "y", V.str "a", V.str "b"]) (k : Int) = some (V.str ((["x", "y", "a", "b"] : List Str)[k])) := atI_nat (by
    show ((["x", "y", "a", "b"] : List Str).map V.str)[k]? = _
    rw [List.getElem?_map, List.getElem?_eq_getElem hk4]
    rfl)
  refine ⟨p, _, _, _, rfl, rfl, SqL.of (bt.get hne upd_same), ha, ?_⟩
  exact q _ _ (vars_word _ (List.getElem_mem hk4)) ((but_sm s1).trans bt) hd'
/-! ### _law_plain -/
/-- a statement without bodies, its keys among ks -/
def flatK (ks : List Str) : Stm → Bool
  | .read _ k => decide (k ∈ ks) | .ite .. => false | .same .. => false | .rep .. => false | _ => true
def Ctx (K : PySem.W.Frag) (H : Hp) (d sc n : Addr) (ks : List Str) : Prop := DrawAt K H d sc ∧ SqL K (del H d) n (ks.map V.str) ∧ 0 < ks.length ∧ ks.length < 1000 ∧ ∀ k ∈ ks, isWord k = true
theorem Ctx.keep {H H' : Hp} {d sc n : Addr} {ks : List Str} (e : Same H H') (h : Ctx K H d sc n ks) : Ctx K H' d sc n ks := ⟨h.1.keep e, (but_sm e).seq h.2.1, h.2.2⟩
theorem Ctx.but {H H' : Hp} {d sc n : Addr} {ks : List Str} (e : But d H H') (h : Ctx K H d sc n ks) (hd : DrawAt K H' d sc) : Ctx K H' d sc n ks := ⟨hd, Same.seq e h.2.1, h.2.2⟩
def spPlain (K : PySem.W.Frag) : Sp := fun vs H Q _ => match vs with
  | [x, y] => ∃ d sc n ks, x = .ref d ∧ y = .ref n ∧ Ctx K H d sc n ks ∧
    ∀ s v H', flatK ks s = true → wS s = true → But d H H' → DrawAt K H' d sc → Dp K (nw H H') v (encS true s) → Q v H'
  | _ => False
theorem sc_law_plain : FnScope ["_law_draws", "_law_names", "_law_at"] ["_law_draws", "_law_names"] (defScope s_law_plain) := ⟨rfl, rfl, rfl, by decide +kernel, rfl, by decide +kernel, by decide +kernel⟩
theorem c_law_plain (T : Top w K mg) : Cal P w K mg base CX0 3 "_law_plain" (spPlain K) := by
  refine cal_0 (f_law_plain T) (g_law_plain T) sc_law_plain (fun _ _ _ _ _ _ us hl => match us, hl with | [_, _], _ => rfl) (fun vs H Q E h => match vs, h with | [_, _], _ => rfl) (fun cdv A outer s H vs Q E hr h => ?_)
  match vs, h with
  | [x, y], h =>
  obtain ⟨d, sc, n, ks, rfl, rfl, c0, q⟩ := h
  refine ⟨_, (pss_cons (ps_set (i := 2) sc_law_plain.nd rfl (Or.inl rfl) (pc (c_law_draw T) hr (pa_cons (pv 0) (pa_cons pe_int pa_nil))))
    (pss_cons (ps_if (pt_cmpR op_le (pv 2) pe_int (nomark _))
      (pss_one (ps_ret (pe_tup (pa_cons pe_str (pa_cons (pc (c_law_variable T) hr (pa_cons (pv 0) pa_nil)) (pa_cons (pe_ix ix_list (pv 1) (pc (c_law_draw T) hr (pa_cons (pv 0) (pa_cons (pcb (z_len T) call_len_seq boot_len (pa_cons (pv 1) pa_nil)) pa_nil))) (fun _ _ => rfl)) pa_nil))))))
      pss_nil)
    (pss_cons (ps_if (pt_cmpR op_le (pv 2) pe_int (nomark _))
      (pss_one (ps_ret (pe_tup (pa_cons pe_str pa_nil))))
      pss_nil)
    (pss_cons (ps_if (pt_cmpR op_le (pv 2) pe_int (nomark _))
      (pss_one (ps_ret (pe_tup (pa_cons pe_str (pa_cons (pc (c_law_variable T) hr (pa_cons (pv 0) pa_nil)) pa_nil)))))
      pss_nil)
    (pss_cons (ps_if (pt_cmpR op_eq (pv 2) pe_int (nomark _))
      (pss_one (ps_ret (pe_tup (pa_cons pe_str (pa_cons (pe_op op_sub (pc (c_law_draw T) hr (pa_cons (pv 0) (pa_cons pe_int pa_nil))) pe_int) pa_nil)))))
      pss_nil)
    (pss_cons (ps_if (pt_cmpR op_eq (pv 2) pe_int (nomark _))
      (pss_one (ps_ret (pe_tup (pa_cons pe_str (pa_cons (pc (c_law_variable T) hr (pa_cons (pv 0) pa_nil)) (pa_cons (pc (c_law_draw T) hr (pa_cons (pv 0) (pa_cons pe_int pa_nil))) pa_nil))))))
      pss_nil)
    (pss_cons (ps_if (pt_cmpR op_eq (pc (c_law_draw T) hr (pa_cons (pv 0) (pa_cons pe_int pa_nil))) pe_int (nomark _))
      (pss_one (ps_ret (pe_tup (pa_cons pe_str pa_nil))))
      pss_nil)
    (pss_one (ps_ret (pe_tup (pa_cons pe_str (pa_cons (pc (c_law_variable T) hr (pa_cons (pv 0) pa_nil)) (pa_cons (pc (c_law_variable T) hr (pa_cons (pv 0) pa_nil)) pa_nil))))))))))))), ?_⟩
  refine ⟨_, rfl, d, sc, 11, rfl, rfl, c0.1, by decide, by decide, fun at_ H1 a0 a1 b1 d1 => ?_⟩
  have c1 := c0.but b1 d1
  have fin : ∀ (H2 : Hp) (s : Stm) (p : Addr) (xs : List V) (ds : List PyData), But d H H2 → DrawAt K H2 d sc → H2 p = none → encS true s = .tuple ds → flatK ks s = true → wS s = true → (∀ H, DpAll K H xs ds) → Q (.ref p) (upd H2 p (.tup xs)) := fun H2 s p xs ds b2 d2 hp e f w da => by
    refine q s _ _ f w (b2.trans (but_sm (smNew1 hp _))) (d2.keep (smNew1 hp _)) ?_
    rw [e]
    exact .tup (SqT.of (nw_obj hp (gro_but b2 d2.1.ne))) (da _)
  refine ⟨_, rfl, _, _, rfl, rfl, _, rfl, ?_⟩
  refine ifB (fun _ => ?_) (fun _ => ?_)
  · -- read
    refine ⟨_, rfl, d, sc, rfl, d1, fun v H2 wv b2 d2 => ?_⟩
    have c2 := c1.but b2 d2
    have hn2 := (del_sm H2 d).seq c2.2.1
    refine ⟨_, rfl, _, rfl, _, rfl, n, _, rfl, .inl hn2, ?_⟩
    refine ⟨d, sc, _, rfl, rfl, d2, by rw [List.length_map]; have := c0.2.2.1; omega, by rw [List.length_map]; have := c0.2.2.2.1; omega, fun r H3 r0 r1 b3 d3 => ?_⟩
    have c3 := c2.but b3 d3
    obtain ⟨k, rfl, hk⟩ := draw_of r0 r1
    rw [List.length_map] at hk
    have hk' : k < ks.length := by omega
    refine ⟨n, _, _, .str ks[k], rfl, rfl, (del_sm H3 d).seq c3.2.1, atI_nat (by rw [List.getElem?_map, List.getElem?_eq_getElem hk']; rfl), ?_⟩
    refine ⟨(by show 3 ≤ sizeLine; decide), fun p hp => ?_⟩
    exact fin H3 (.read v ks[k]) p _ _ (b1.trans (b2.trans b3)) d3 hp rfl (decide_eq_true (List.getElem_mem hk')) (by
      show (isWord v && isWord ks[k]) = true
      rw [wv, c0.2.2.2.2 _ (List.getElem_mem hk')]
      rfl) fun _ => .cons (.str _) (.cons (.str _) (.cons (.str _) .nil))
  refine ⟨_, rfl, _, _, rfl, rfl, _, rfl, ?_⟩
  refine ifB (fun _ => ?_) (fun _ => ?_)
  · refine ⟨(by show 1 ≤ sizeLine; decide), fun p hp => ?_⟩
    exact fin H1 .wait p _ _ b1 d1 hp rfl rfl rfl fun _ => .cons (.str _) .nil
  refine ⟨_, rfl, _, _, rfl, rfl, _, rfl, ?_⟩
  refine ifB (fun _ => ?_) (fun _ => ?_)
  · refine ⟨_, rfl, d, sc, rfl, d1, fun v H2 wv b2 d2 => ?_⟩
    refine ⟨(by show 2 ≤ sizeLine; decide), fun p hp => ?_⟩
    exact fin H2 (.print v) p _ _ (b1.trans b2) d2 hp rfl rfl wv fun _ => .cons (.str _) (.cons (.str _) .nil)
  refine ⟨_, rfl, rfl, _, rfl, ?_⟩
  refine ifB (fun _ => ?_) (fun _ => ?_)
  · refine ⟨_, rfl, d, sc, _, rfl, rfl, d1, by decide, by decide, fun r H2 r0 r1 b2 d2 => ?_⟩
    refine ⟨_, _, rfl, rfl, ?_⟩
    refine ⟨(by show 2 ≤ sizeLine; decide), fun p hp => ?_⟩
    exact fin H2 (.say (r - 99)) p _ _ (b1.trans b2) d2 hp rfl rfl (by
      show (decide _ && decide _) = true
      rw [decide_eq_true (by omega), decide_eq_true (by omega)]
      rfl) fun _ => .cons (.str _) (.cons (.int _) .nil)
  refine ⟨_, rfl, rfl, _, rfl, ?_⟩
  refine ifB (fun _ => ?_) (fun _ => ?_)
  · refine ⟨_, rfl, d, sc, rfl, d1, fun v H2 wv b2 d2 => ?_⟩
    refine ⟨_, rfl, d, sc, _, rfl, rfl, d2, by decide, by decide, fun r H3 r0 r1 b3 d3 => ?_⟩
    refine ⟨(by show 3 ≤ sizeLine; decide), fun p hp => ?_⟩
    exact fin H3 (.set v r) p _ _ (b1.trans (b2.trans b3)) d3 hp rfl rfl (by
      show (isWord v && (decide _ && decide _)) = true
      rw [wv, decide_eq_true (by omega), decide_eq_true (by omega)]
      rfl) fun _ => .cons (.str _) (.cons (.str _) (.cons (.int _) .nil))
  refine ⟨_, rfl, d, sc, _, rfl, rfl, d1, by decide, by decide, fun r H2 r0 r1 b2 d2 => ?_⟩
  refine ⟨rfl, _, rfl, ?_⟩
  refine ifB (fun _ => ?_) (fun _ => ?_)
  · refine ⟨(by show 1 ≤ sizeLine; decide), fun p hp => ?_⟩
    exact fin H2 .stop p _ _ (b1.trans b2) d2 hp rfl rfl rfl fun _ => .cons (.str _) .nil
  refine ⟨_, rfl, d, sc, rfl, d2, fun v H3 wv b3 d3 => ?_⟩
  refine ⟨_, rfl, d, sc, rfl, d3, fun u H4 wu b4 d4 => ?_⟩
  refine ⟨(by show 3 ≤ sizeLine; decide), fun p hp => ?_⟩
  exact fin H4 (.copy v u) p _ _ (b1.trans (b2.trans (b3.trans b4))) d4 hp rfl rfl (by
    show (isWord v && isWord u) = true
    rw [wv, wu]
    rfl) fun _ => .cons (.str _) (.cons (.str _) (.cons (.str _) .nil))
end
end RM

set_option Elab.async false
set_option linter.all false
set_option maxRecDepth 100000
set_option maxHeartbeats 4000000
namespace RM
open PySem PySem.Spec PyProof.Rows L2
/-! ### _law_body -/
mutual
/-- every key that is read is among ks -/
def kS (ks : List Str) : Stm → Bool
  | .read _ k => decide (k ∈ ks) | .ite _ _ a b => kB ks a && kB ks b | .same _ _ a b => kB ks a && kB ks b | .rep _ a => kB ks a | _ => true
def kB (ks : List Str) : List Stm → Bool
  | [] => true
  | s :: r => kS ks s && kB ks r
end
def bB : Nat → Nat → Nat
  | 0, m => m
  | n + 1, m => m * (1 + max (2 * bB n 2) (bB n 3))
theorem flat_kS {ks : List Str} {s : Stm} (h : flatK ks s = true) : kS ks s = true := by cases s <;> first | exact h | cases h
theorem flat_d {ks : List Str} {s : Stm} (h : flatK ks s = true) : dS s = 0 ∧ cS s = 1 := by cases s <;> first | exact ⟨rfl, rfl⟩ | cases h
theorem wB_app : ∀ (l m : List Stm), wB (l ++ m) = (wB l && wB m)
  | [], m => by simp [wB]
  | s :: r, m => by rw [List.cons_append, wB, wB, wB_app r m, Bool.and_assoc]
theorem kB_app (ks : List Str) : ∀ (l m : List Stm), kB ks (l ++ m) = (kB ks l && kB ks m)
  | [], m => by simp [kB]
  | s :: r, m => by rw [List.cons_append, kB, kB, kB_app ks r m, Bool.and_assoc]
theorem cB_app : ∀ (l m : List Stm), cB (l ++ m) = cB l + cB m
  | [], m => by simp [cB]
  | s :: r, m => by rw [List.cons_append, cB, cB, cB_app r m, Nat.add_assoc]
theorem encB_app (fl : Bool) (l m : List Stm) : encB fl (l ++ m) = encB fl l ++ encB fl m := by rw [encB_map, encB_map, encB_map, List.map_append]
/-- what the making of a body keeps: the body's list at p, not there in H0 -/
def BI (K : PySem.W.Frag) (ks : List Str) (H0 : Hp) (d sc p : Addr) (n k b : Nat) (H : Hp) : Prop := ∃ l acc, Same (del H0 d) (del (del H d) p) ∧ Hd4 H d sc ∧ H p = some (.lst acc) ∧ DpAll K (del (nw H0 H) p) acc (encB true l) ∧
  wB l = true ∧ kB ks l = true ∧ dB l ≤ n + 1 ∧ l.length = k ∧ cB l ≤ k * b
theorem bi_ctx {K : PySem.W.Frag} {H0 H : Hp} {d sc n p : Addr} {ks : List Str} (c : Ctx K H0 d sc n ks) (s : Same (del H0 d) (del (del H d) p)) (h : Hd4 H d sc) : Ctx K H d sc n ks :=
  have e : Same (del H0 d) (del H d) := s.trans (del_sm _ _)
  ⟨⟨h, c.1.2.keep e⟩, e.seq c.2.1, c.2.2⟩
theorem bi_gro {H0 H : Hp} {d p : Addr} (s : Same (del H0 d) (del (del H d) p)) (hd : H d ≠ none) : Gro H0 H := fun b h => by
  by_cases hb : b = d
  · rw [hb] at h
    exact absurd h hd
  · cases z : H0 b with
    | none => rfl
    | some u =>
      have := s b u (by rw [del_ne hb]; exact z)
      have := (del_sm _ _) _ _ ((del_sm _ _) _ _ this)
      rw [this] at h
      cases h
theorem bi_step {K : PySem.W.Frag} {ks : List Str} {H0 H H2 : Hp} {d sc p : Addr} {n k b : Nat} {v : V} {s : Stm} (h0 : H0 d ≠ none) (hp0 : H0 p = none) (hne : p ≠ d) (l : List Stm) (acc : List V)
    (i1 : Same (del H0 d) (del (del H d) p)) (i2 : Hd4 H d sc) (i3 : H p = some (.lst acc)) (i4 : DpAll K (del (nw H0 H) p) acc (encB true l)) (i5 : wB l = true) (i6 : kB ks l = true) (i7 : dB l ≤ n + 1) (i8 : l.length = k) (i9 : cB l ≤ k * b)
    (bt : But d H H2) (hd2 : Hd4 H2 d sc) (hv : Dp K (nw H H2) v (encS true s)) (ws : wS s = true) (kk : kS ks s = true) (ds : dS s ≤ n) (cs : cS s ≤ b) : BI K ks H0 d sc p n (k + 1) b (upd H2 p (.lst (acc ++ [v]))) := by
  have g := bi_gro i1 i2.ne
  refine ⟨l ++ [s], acc ++ [v], fun c u z => ?_, ?_, upd_same, ?_, ?_, ?_, ?_, ?_, ?_⟩
  · have z2 := i1 c u z
    by_cases hc : c = d
    · rw [hc, del_same] at z
      cases z
    · by_cases hcp : c = p
      · rw [hcp, del_same] at z2
        cases z2
      · rw [del_ne hcp, del_ne hc] at z2 ⊢
        rw [upd_ne hcp]
        exact bt.get hc z2
  · obtain ⟨p', q', r', h, z⟩ := hd2
    exact ⟨p', q', r', by rw [upd_ne hne.symm]; exact h, z⟩
  · rw [encB_app]
    have e1 : Same (del (nw H0 H) p) (del (nw H0 (upd H2 p (.lst (acc ++ [v])))) p) := fun c u z => by
      by_cases hcp : c = p
      · rw [hcp, del_same] at z
        cases z
      · rw [del_ne hcp] at z ⊢
        obtain ⟨z1, z2⟩ := nw_some z
        rw [nw_new z1, upd_ne hcp]
        exact bt.get (fun q => h0 (by rw [← q]; exact z1)) z2
    have e2 : Same (nw H H2) (del (nw H0 (upd H2 p (.lst (acc ++ [v])))) p) := fun c u z => by
      obtain ⟨z1, z2⟩ := nw_some z
      have hcp : c ≠ p := fun q => by
        rw [q, i3] at z1
        cases z1
      rw [del_ne hcp, nw_new (g _ z1), upd_ne hcp]
      exact z2
    exact DpAll.snoc (DpAll.keep e1 i4) (Dp.keep e2 hv)
  · rw [wB_app, i5, wB, ws]
    rfl
  · rw [kB_app, i6, kB, kk]
    rfl
  · rw [dB_snoc]
    omega
  · rw [List.length_append, i8]
    rfl
  · rw [cB_app, cB, cB, Nat.succ_mul]
    omega
section
variable {P : Program} {w : World} {K : PySem.W.Frag} {mg : Str → Option Value} {base : Heap}
def spBody (K : PySem.W.Frag) (n : Nat) : Sp := fun vs H Q _ => match vs with
  | [x, y, z, u] => ∃ d sc nm ks, ∃ deep m : Nat, x = .ref d ∧ y = .ref nm ∧ z = .int deep ∧ u = .int m ∧ deep < n ∧ m ≤ 1000 ∧ bB deep m ≤ 1000 ∧ Ctx K H d sc nm ks ∧
    ∀ r l ys H', wB l = true → kB ks l = true → dB l ≤ deep + 1 → cB l ≤ bB deep m → But d H H' → DrawAt K H' d sc → H r = none → H' r = some (.lst ys) → DpAll K (del (nw H H') r) ys (encB true l) → Q (.ref r) H'
  | _ => False
theorem sc_law_body : FnScope ["_law_draws", "_law_names", "_law_deep_here", "_law_most", "_law_body_here", "_law_k", "_law_at", "_law_one", "_law_two"] ["_law_draws", "_law_names", "_law_deep_here", "_law_most"] (defScope s_law_body) := ⟨rfl, rfl, rfl, by decide +kernel, rfl, by decide +kernel, by decide +kernel⟩
theorem bB_mul (deep m : Nat) : bB deep m = m * bB deep 1 := by
  cases deep with
  | zero => simp [bB]
  | succ n => simp [bB]
theorem ok_law_body (T : Top w K mg) {n : Nat} (ih : Cal P w K mg base CX0 (n + 4) "_law_body" (spBody K n)) : Cal P w K mg base CX0 (n + 5) "_law_body" (spBody K (n + 1)) := by
  refine cal_0 (f_law_body T) (g_law_body T) sc_law_body (fun _ _ _ _ _ _ us hl => match us, hl with | [_, _, _, _], _ => rfl) (fun vs H Q E h => match vs, h with | [_, _, _, _], _ => rfl) (fun cdv A outer s H0 vs Q E hr h => ?_)
  match vs, h with
  | [x, y, z, u], h =>
  obtain ⟨d, sc, nm, ks, deep, m, rfl, rfl, rfl, rfl, hdn, hm, hbb, c0, q⟩ := h
  refine ⟨_, (pss_cons (ps_set (i := 4) sc_law_body.nd rfl (Or.inl rfl) (pe_lst pa_nil))
    (pss_cons (ps_for PassesOwn.never rfl (pi_range1 rfl (z_range T) (pa_cons (pc (c_law_draw T) hr (pa_cons (pv 0) (pa_cons (pe_op op_add (pv 3) pe_int) pa_nil))) pa_nil)) (pg_name (i := 5) sc_law_body.nd rfl (Or.inl rfl))
      (pss_cons (ps_set (i := 6) sc_law_body.nd rfl (Or.inl rfl) (pc (c_law_draw T) hr (pa_cons (pv 0) (pa_cons pe_int pa_nil))))
    (pss_one (ps_if (PW.pt (pw_or (pt_cmpR op_lt (pv 2) pe_int (nomark _)) (pw_or1 (pt_cmpR op_le (pv 6) pe_int (nomark _)))))
      (pss_one (ps_expr (pe_bm PySem.F.plainAttrs_list PySem.F.slot_list_append PySem.F.type_list_append mt_append (pv 4) (pa_cons (pc (c_law_plain T) hr (pa_cons (pv 0) (pa_cons (pv 1) pa_nil))) pa_nil))))
      (pss_one (ps_if (pt_cmpR op_eq (pv 6) pe_int (nomark _))
      (pss_cons (ps_set (i := 7) sc_law_body.nd rfl (Or.inl rfl) (pc ih hr (pa_cons (pv 0) (pa_cons (pv 1) (pa_cons (pe_op op_sub (pv 2) pe_int) (pa_cons pe_int pa_nil))))))
    (pss_cons (ps_set (i := 8) sc_law_body.nd rfl (Or.inl rfl) (pc ih hr (pa_cons (pv 0) (pa_cons (pv 1) (pa_cons (pe_op op_sub (pv 2) pe_int) (pa_cons pe_int pa_nil))))))
    (pss_one (ps_if (pt_cmpR op_eq (pc (c_law_draw T) hr (pa_cons (pv 0) (pa_cons pe_int pa_nil))) pe_int (nomark _))
      (pss_one (ps_expr (pe_bm PySem.F.plainAttrs_list PySem.F.slot_list_append PySem.F.type_list_append mt_append (pv 4) (pa_cons (pe_tup (pa_cons pe_str (pa_cons (pc (c_law_variable T) hr (pa_cons (pv 0) pa_nil)) (pa_cons (pc (c_law_draw T) hr (pa_cons (pv 0) (pa_cons pe_int pa_nil))) (pa_cons (pv 7) (pa_cons (pv 8) pa_nil)))))) pa_nil))))
      (pss_one (ps_expr (pe_bm PySem.F.plainAttrs_list PySem.F.slot_list_append PySem.F.type_list_append mt_append (pv 4) (pa_cons (pe_tup (pa_cons pe_str (pa_cons (pc (c_law_variable T) hr (pa_cons (pv 0) pa_nil)) (pa_cons (pc (c_law_variable T) hr (pa_cons (pv 0) pa_nil)) (pa_cons (pv 7) (pa_cons (pv 8) pa_nil)))))) pa_nil))))))))
      (pss_one (ps_expr (pe_bm PySem.F.plainAttrs_list PySem.F.slot_list_append PySem.F.type_list_append mt_append (pv 4) (pa_cons (pe_tup (pa_cons pe_str (pa_cons (pc (c_law_draw T) hr (pa_cons (pv 0) (pa_cons pe_int pa_nil))) (pa_cons (pc ih hr (pa_cons (pv 0) (pa_cons (pv 1) (pa_cons (pe_op op_sub (pv 2) pe_int) (pa_cons pe_int pa_nil))))) pa_nil)))) pa_nil))))))))))
    (pss_one (ps_ret (pv 4))))), ?_⟩
  refine ⟨(by show 0 ≤ sizeLine; decide), fun p hp => ?_⟩
  have s0 := smNew1 hp (.lst [])
  have hne : p ≠ d := fun e => c0.1.1.ne (by rw [← e]; exact hp)
  have h0 := c0.1.1.ne
  refine ⟨_, rfl, _, rfl, _, _, rfl, rfl, ?_⟩
  refine ⟨d, sc, _, rfl, rfl, c0.1.keep s0, by omega, by omega, fun r H1 r0 r1 b1 d1 => ?_⟩
  obtain ⟨k, rfl, hk⟩ := draw_of r0 r1
  refine ⟨_, rfl, by omega, by omega, ?_⟩
  have hp1 : H1 p = some (.lst []) := b1.get hne upd_same
  have st : BI K ks H0 d sc p deep 0 (bB deep 1) H1 := by
    refine ⟨[], [], fun c u z => ?_, d1.1, hp1, .nil, rfl, rfl, by simp [dB], rfl, by simp [cB]⟩
    by_cases hc : c = d
    · rw [hc, del_same] at z
      cases z
    · rw [del_ne hc] at z
      have hcp : c ≠ p := fun q => by
        rw [q, hp] at z
        cases z
      rw [del_ne hcp, del_ne hc]
      exact b1.get hc (s0 _ _ z)
  rw [show ((k : Int)).toNat = k from rfl]
  refine for_it (walk_range (lo := 0) (n := k)) (fun i σ H' => BI K ks H0 d sc p deep i (bB deep 1) H' ∧ ∃ v5 v6 v7 v8, σ = [some (.ref d), some (.ref nm), some (.int deep), some (.int m), some (.ref p), v5, v6, v7, v8]) ⟨st, _, _, _, _, rfl⟩ (fun _ _ _ _ _ => trivial) ?_ ?_
  · rintro i x σ H2 H3 hi ⟨⟨l, acc, i1, i2, i3, i4, i5, i6, i7, i8, i9⟩, v5, v6, v7, v8, rfl⟩ ⟨rfl, rfl⟩
    have c2 := bi_ctx c0 i1 i2
    have step := fun (H3 : Hp) (v : V) (s : Stm) => bi_step (ks := ks) (H2 := H3) (v := v) (s := s) h0 hp hne l acc i1 i2 i3 i4 i5 i6 i7 i8 i9
    have bB1 : 1 ≤ bB deep 1 := by
      cases deep with
      | zero => exact Nat.le_refl _
      | succ n => show 1 ≤ 1 * _; omega
    have ll : acc.length ≤ 1000 := by
      rw [DpAll.len i4, encB_map, List.length_map, i8]
      omega
    refine ⟨_, rfl, d, sc, _, rfl, rfl, c2.1, by decide, by decide, fun at_ H4 a0 a1 b4 d4 => ?_⟩
    have c4 := c2.but b4 d4
    have hp4 := b4.get hne i3
    refine ⟨_, rfl, _, _, rfl, rfl, _, rfl, ?_⟩
    refine ifB (fun _ => ifT rfl ?_) (fun hde => ?_)
    · refine ⟨_, rfl, .inl ⟨rfl, _, SqL.of hp4⟩, ?_⟩
      refine ⟨_, rfl, _, rfl, d, sc, nm, ks, rfl, rfl, c4, fun s v H5 fs ws b5 d5 hv => ?_⟩
      refine ⟨p, acc, v, rfl, rfl, b5.get hne hp4, small1000 ll, ?_⟩
      exact ⟨step H5 v s (b4.trans b5) d5.1 (Dp.keep (nw_back (gro_but b4 d4.1.ne)) hv) ws (flat_kS fs) (by rw [(flat_d fs).1]; omega) (by rw [(flat_d fs).2]; exact bB1), _, _, _, _, rfl⟩
    refine ⟨_, rfl, _, _, rfl, rfl, _, rfl, ?_⟩
    refine ifB (fun _ => ?_) (fun hat => ?_)
    · refine ⟨_, rfl, .inl ⟨rfl, _, SqL.of hp4⟩, ?_⟩
      refine ⟨_, rfl, _, rfl, d, sc, nm, ks, rfl, rfl, c4, fun s v H5 fs ws b5 d5 hv => ?_⟩
      refine ⟨p, acc, v, rfl, rfl, b5.get hne hp4, small1000 ll, ?_⟩
      exact ⟨step H5 v s (b4.trans b5) d5.1 (Dp.keep (nw_back (gro_but b4 d4.1.ne)) hv) ws (flat_kS fs) (by rw [(flat_d fs).1]; omega) (by rw [(flat_d fs).2]; exact bB1), _, _, _, _, rfl⟩
    have hd1 : 1 ≤ deep := by
      have : ¬ ((deep : Int) < 1) := of_decide_eq_false hde
      omega
    obtain ⟨e, rfl⟩ : ∃ e, deep = e + 1 := ⟨deep - 1, by omega⟩
    have hbe : bB (e + 1) 1 = 1 + max (2 * bB e 2) (bB e 3) := by show 1 * _ = _; omega
    have hm0 : 1 ≤ m := by omega
    have hbe2 : bB (e + 1) 1 ≤ 1000 := by
      have := bB_mul (e + 1) m
      have := Nat.le_mul_of_pos_left (bB (e + 1) 1) hm0
      omega
    have hde1 : V.int (((e + 1 : Nat) : Int) - 1) = V.int (e : Nat) := congrArg V.int (by omega)
    refine ⟨_, rfl, rfl, _, rfl, ?_⟩
    refine ifB (fun _ => ?_) (fun _ => ?_)
    · -- two bodies
      refine ⟨_, rfl, _, rfl, _, rfl, _, _, rfl, rfl, ?_⟩
      refine ⟨d, sc, nm, ks, e, 2, rfl, rfl, hde1, rfl, by omega, by omega, by omega, c4, fun ra la ya H5 wa ka da ca b5 d5 na hra hya => ?_⟩
      have c5 := c4.but b5 d5
      refine ⟨_, rfl, _, rfl, _, rfl, _, _, rfl, rfl, ?_⟩
      refine ⟨d, sc, nm, ks, e, 2, rfl, rfl, hde1, rfl, by omega, by omega, by omega, c5, fun rb lb yb H6 wb kb db cb b6 d6 nb hrb hyb => ?_⟩
      have c6 := c5.but b6 d6
      have da1 : Dp K (nw H4 H5) (.ref ra) (seqD true (encB true la)) := .lst (SqL.of (by rw [nw_new na]; exact hra)) (DpAll.keep (del_sm _ _) hya)
      have db1 : Dp K (nw H5 H6) (.ref rb) (seqD true (encB true lb)) := .lst (SqL.of (by rw [nw_new nb]; exact hrb)) (DpAll.keep (del_sm _ _) hyb)
      have da2 : Dp K (nw H3 H6) (.ref ra) (seqD true (encB true la)) := Dp.keep ((nw_back (gro_but b4 d4.1.ne)).trans (nw_but b6 c2.1.1.ne)) da1
      have db2 : Dp K (nw H3 H6) (.ref rb) (seqD true (encB true lb)) := Dp.keep (nw_back ((gro_but b4 d4.1.ne).trans (gro_but b5 d5.1.ne))) db1
      have b46 := b4.trans (b5.trans b6)
      have hp6 : H6 p = some (.lst acc) := b46.get hne i3
      refine ⟨_, rfl, d, sc, _, rfl, rfl, d6, by decide, by decide, fun r7 H7 _ _ b7 d7 => ?_⟩
      refine ⟨rfl, _, rfl, ?_⟩
      have hp7 := b7.get hne hp6
      refine ifB (fun _ => ?_) (fun _ => ?_)
      · refine ⟨_, rfl, .inl ⟨rfl, _, SqL.of hp7⟩, ?_⟩
        refine ⟨_, rfl, d, sc, rfl, d7, fun z H8 wz b8 d8 => ?_⟩
        refine ⟨_, rfl, d, sc, _, rfl, rfl, d8, by decide, by decide, fun r9 H9 n0 n1 b9 d9 => ?_⟩
        refine ⟨_, rfl, _, rfl, (by show 5 ≤ sizeLine; decide), fun t ht => ?_⟩
        have bb := b46.trans (b7.trans (b8.trans b9))
        have b79 := b7.trans (b8.trans b9)
        refine ⟨p, acc, .ref t, rfl, rfl, smNew1 ht _ _ _ (bb.get hne i3), small1000 ll, ?_⟩
        refine ⟨step _ (.ref t) (.ite z r9 la lb) (bb.trans (but_sm (smNew1 ht _))) (d9.1.keep (smNew1 ht _)) ?_ ?_ ?_ ?_ ?_, _, _, _, _, rfl⟩
        · refine .tup (SqT.of (nw_obj ht (gro_but bb d9.1.ne))) ?_
          have ek : Same (nw H3 H6) (nw H3 (upd H9 t (.tup [.str "if", .str z, .int r9, .ref ra, .ref rb]))) := (nw_but b79 c2.1.1.ne).trans (nw_keep (smNew1 ht _))
          exact .cons (.str _) (.cons (.str _) (.cons (.int _) (.cons (Dp.keep ek da2) (.cons (Dp.keep ek db2) .nil))))
        · show (isWord z && (decide _ && decide _) && (wB la && wB lb)) = true
          rw [wz, wa, wb, decide_eq_true (by omega), decide_eq_true (by omega)]
          rfl
        · show (kB ks la && kB ks lb) = true
          rw [ka, kb]
          rfl
        · show max (dB la) (dB lb) ≤ e + 1
          omega
        · show 1 + cB la + cB lb ≤ _
          omega
      · refine ⟨_, rfl, .inl ⟨rfl, _, SqL.of hp7⟩, ?_⟩
        refine ⟨_, rfl, d, sc, rfl, d7, fun z H8 wz b8 d8 => ?_⟩
        refine ⟨_, rfl, d, sc, rfl, d8, fun z2 H9 wz2 b9 d9 => ?_⟩
        refine ⟨_, rfl, _, rfl, (by show 5 ≤ sizeLine; decide), fun t ht => ?_⟩
        have bb := b46.trans (b7.trans (b8.trans b9))
        have b79 := b7.trans (b8.trans b9)
        refine ⟨p, acc, .ref t, rfl, rfl, smNew1 ht _ _ _ (bb.get hne i3), small1000 ll, ?_⟩
        refine ⟨step _ (.ref t) (.same z z2 la lb) (bb.trans (but_sm (smNew1 ht _))) (d9.1.keep (smNew1 ht _)) ?_ ?_ ?_ ?_ ?_, _, _, _, _, rfl⟩
        · refine .tup (SqT.of (nw_obj ht (gro_but bb d9.1.ne))) ?_
          have ek : Same (nw H3 H6) (nw H3 (upd H9 t (.tup [.str "same", .str z, .str z2, .ref ra, .ref rb]))) := (nw_but b79 c2.1.1.ne).trans (nw_keep (smNew1 ht _))
          exact .cons (.str _) (.cons (.str _) (.cons (.str _) (.cons (Dp.keep ek da2) (.cons (Dp.keep ek db2) .nil))))
        · show (isWord z && isWord z2 && (wB la && wB lb)) = true
          rw [wz, wz2, wa, wb]
          rfl
        · show (kB ks la && kB ks lb) = true
          rw [ka, kb]
          rfl
        · show max (dB la) (dB lb) ≤ e + 1
          omega
        · show 1 + cB la + cB lb ≤ _
          omega
    · -- repeat
      refine ⟨_, rfl, .inl ⟨rfl, _, SqL.of hp4⟩, ?_⟩
      refine ⟨_, rfl, d, sc, _, rfl, rfl, d4, by decide, by decide, fun r5 H5 n0 n1 b5 d5 => ?_⟩
      have c5 := c4.but b5 d5
      refine ⟨_, rfl, _, rfl, _, rfl, _, _, rfl, rfl, ?_⟩
      refine ⟨d, sc, nm, ks, e, 3, rfl, rfl, hde1, rfl, by omega, by omega, by omega, c5, fun ra la ya H6 wa ka da ca b6 d6 na hra hya => ?_⟩
      refine ⟨(by show 3 ≤ sizeLine; decide), fun t ht => ?_⟩
      have da1 : Dp K (nw H5 H6) (.ref ra) (seqD true (encB true la)) := .lst (SqL.of (by rw [nw_new na]; exact hra)) (DpAll.keep (del_sm _ _) hya)
      have bb := b4.trans (b5.trans b6)
      refine ⟨p, acc, .ref t, rfl, rfl, smNew1 ht _ _ _ (bb.get hne i3), small1000 ll, ?_⟩
      refine ⟨step _ (.ref t) (.rep r5 la) (bb.trans (but_sm (smNew1 ht _))) (d6.1.keep (smNew1 ht _)) ?_ ?_ ?_ ?_ ?_, _, _, _, _, rfl⟩
      · refine .tup (SqT.of (nw_obj ht (gro_but bb d6.1.ne))) ?_
        exact .cons (.str _) (.cons (.int _) (.cons (Dp.keep ((nw_back ((gro_but b4 d4.1.ne).trans (gro_but b5 d5.1.ne))).trans (nw_keep (smNew1 ht _))) da1) .nil))
      · show (decide _ && decide _ && wB la) = true
        rw [wa, decide_eq_true (by omega), decide_eq_true (by omega)]
        rfl
      · exact ka
      · exact da
      · show 1 + cB la ≤ _
        omega
  · rintro σ H2 ⟨⟨l, acc, i1, i2, i3, i4, i5, i6, i7, i8, i9⟩, v5, v6, v7, v8, rfl⟩
    refine ⟨_, rfl, ?_⟩
    have c2 := bi_ctx c0 i1 i2
    refine q p l acc H2 i5 i6 i7 ?_ (i1.trans (del_sm _ _)) c2.1 hp i3 i4
    rw [bB_mul]
    exact Nat.le_trans i9 (Nat.mul_le_mul_right _ (by omega))
theorem c_law_body (T : Top w K mg) : ∀ n, Cal P w K mg base CX0 (n + 4) "_law_body" (spBody K n)
  | 0 => cal_never (f_law_body T) (g_law_body T) (ps := ["_law_draws", "_law_names", "_law_deep_here", "_law_most"]) (fun _ _ _ _ _ _ us hl => match us, hl with | [_, _, _, _], _ => rfl) fun vs H Q E h => by
      match vs, h with
      | [x, y, z, u], h =>
      obtain ⟨d, sc, nm, ks, deep, m, _, _, _, _, hn, _⟩ := h
      omega
  | n + 1 => ok_law_body T (c_law_body T n)
end
end RM

set_option Elab.async false
set_option linter.all false
set_option maxRecDepth 100000
set_option maxHeartbeats 2000000
namespace RM
open PySem PySem.Spec PyProof.Rows L2
section
variable {P : Program} {w : World} {K : PySem.W.Frag} {mg : Str → Option Value} {base : Heap}
theorem sc_is_value : FnScope ["value"] ["value"] (defScope s_is_value) := ⟨rfl, rfl, rfl, by decide +kernel, rfl, by decide +kernel, by decide +kernel⟩
def spIsValue : Sp := fun vs H Q _ => match vs with
  | [x] => ∃ n, x = .int n ∧ Q (.bl (isValue n)) H
  | _ => False
/-- data that is no number -/
def noInt : PyData → Bool
  | .int _ => false
  | .dict _ => false
  | _ => true
def spIsValueG (K : PySem.W.Frag) : Sp := fun vs H Q E => spIsValue vs H Q E ∨ match vs with
  | [x] => ∃ d, Dp K H x d ∧ noInt d = true ∧ Q (.bl false) H
  | _ => False
theorem cg_is_value (T : Top w K mg) : Cal P w K mg base CX0 1 "is_value" (spIsValueG K) := by
  refine cal_0 (f_is_value T) (g_is_value T) sc_is_value (fun _ _ _ _ _ _ us hl => match us, hl with | [_], _ => rfl) (fun vs H Q E h => match vs, h with | [_], _ => rfl | [], .inl h => h.elim | [], .inr h => h.elim | _ :: _ :: _, .inl h => h.elim | _ :: _ :: _, .inr h => h.elim) (fun cdv A outer s H vs Q E hr h => ?_)
  match vs, h with
  | [x], h =>
  refine ⟨_, (pss_one (ps_ret (pe_and (pcb (z_isinstance T) call_isi boot_isinstance (pa_cons (pv 0) (pa_cons (pty (z_int T) boot_int) pa_nil))) (pe_and (pe_not (pcb (z_isinstance T) call_isi boot_isinstance (pa_cons (pv 0) (pa_cons (pty (z_bool T) boot_bool) pa_nil)))) (pe_one (pe_chain op_le op_le (pe_un un_neg (pglI (i_GREATEST T))) (pv 0) (pglI (i_GREATEST T)))))))), ?_⟩
  rcases h with h | ⟨d, hd, hn, q⟩
  case inr =>
    cases hd with
    | int i => cases hn
    | non => exact ⟨_, rfl, _, _, _, _, false, rfl, .ty _, .base .non, kit_ty (by decide +kernel), _, rfl, iteF q⟩
    | str z => exact ⟨_, rfl, _, _, _, _, false, rfl, .ty _, .base (.str z), kit_ty (by decide +kernel), _, rfl, iteF q⟩
    | lst h1 _ => exact ⟨_, rfl, _, _, _, _, false, rfl, .ty _, tyL h1, kit_ty (by decide +kernel), _, rfl, iteF q⟩
    | tup h1 _ => exact ⟨_, rfl, _, _, _, _, false, rfl, .ty _, tyT h1, kit_ty (by decide +kernel), _, rfl, iteF q⟩
    | bl b =>
      refine ⟨_, rfl, _, _, _, _, true, rfl, .ty _, .base (.bl b), kit_ty (by decide +kernel), _, rfl, iteT ?_⟩
      exact ⟨_, rfl, _, _, _, _, true, rfl, .ty _, .base (.bl b), kit_ty (by decide +kernel), _, rfl, _, rfl, iteF q⟩
  obtain ⟨n, rfl, q⟩ := h
  refine ⟨_, rfl, _, _, _, _, true, rfl, .ty _, .base (.int _), kit_ty (by decide +kernel), _, rfl, iteT ?_⟩
  refine ⟨_, rfl, _, _, _, _, false, rfl, .ty _, .base (.int _), kit_ty (by decide +kernel), _, rfl, _, rfl, iteT ?_⟩
  refine ⟨_, rfl, _, rfl, _, _, rfl, rfl, _, rfl, ?_⟩
  unfold isValue at q
  by_cases c : -99 ≤ n
  · rw [decide_eq_true c] at q
    rw [decide_eq_true c]
    exact ⟨_, _, rfl, rfl, q⟩
  · rw [decide_eq_false c] at q
    rw [decide_eq_false c]
    exact q
theorem c_is_value (T : Top w K mg) : Cal P w K mg base CX0 1 "is_value" spIsValue := (cg_is_value T).imp fun _ _ _ _ => Or.inl
/-! ### is_word -/
def spIsWord : Sp := fun vs H Q _ => match vs with
  | [x] => ∃ z : Str, x = .str z ∧ z.length ≤ sizeLine ∧ Q (.bl (isWord z)) H
  | _ => False
theorem sc_is_word : FnScope ["value", "letter"] ["value"] (defScope s_is_word) := ⟨rfl, rfl, rfl, by decide +kernel, rfl, by decide +kernel, by decide +kernel⟩
/-- data that is no text -/
def noStr : PyData → Bool
  | .str _ => false
  | .dict _ => false
  | _ => true
def spIsWordG (K : PySem.W.Frag) : Sp := fun vs H Q E => spIsWord vs H Q E ∨ match vs with
  | [x] => ∃ d, Dp K H x d ∧ noStr d = true ∧ Q (.bl false) H
  | _ => False
theorem cg_is_word (T : Top w K mg) : Cal P w K mg base CX0 1 "is_word" (spIsWordG K) := by
  refine cal_0 (f_is_word T) (g_is_word T) sc_is_word (fun _ _ _ _ _ _ us hl => match us, hl with | [_], _ => rfl) (fun vs H Q E h => match vs, h with | [_], _ => rfl | [], .inl h => h.elim | [], .inr h => h.elim | _ :: _ :: _, .inl h => h.elim | _ :: _ :: _, .inr h => h.elim) (fun cdv A outer s H vs Q E hr h => ?_)
  match vs, h with
  | [x], h =>
  refine ⟨_, (pss_cons (ps_if (PW.pt (pw_or (pt_not (pt_val (pcb (z_isinstance T) call_isi boot_isinstance (pa_cons (pv 0) (pa_cons (pty (z_str T) boot_str) pa_nil))))) (pw_or1 (pt_not (pt_chain op_le op_le pe_int (pcb (z_len T) call_len_str boot_len (pa_cons (pv 0) pa_nil)) (pglI (i_LONGEST T)))))))
      (pss_one (ps_ret pe_bl))
      pss_nil)
    (pss_cons (ps_for PassesOwn.never rfl (pi_str (pv 0)) (pg_name (i := 1) sc_is_word.nd rfl (Or.inl rfl))
      (pss_one (ps_if (pt_cmpR op_notIn_sign (pv 1) (pglS (i_LETTERS T)) rfl)
      (pss_one (ps_ret pe_bl))
      pss_nil)))
    (pss_one (ps_ret pe_bl)))), ?_⟩
  rcases h with h | ⟨d, hd, hn, q⟩
  case inr =>
    cases hd with
    | str z => cases hn
    | non => exact ⟨_, rfl, _, _, _, _, false, rfl, .ty _, .base .non, kit_ty (by decide +kernel), _, rfl, iteT q⟩
    | int z => exact ⟨_, rfl, _, _, _, _, false, rfl, .ty _, .base (.int z), kit_ty (by decide +kernel), _, rfl, iteT q⟩
    | bl z => exact ⟨_, rfl, _, _, _, _, false, rfl, .ty _, .base (.bl z), kit_ty (by decide +kernel), _, rfl, iteT q⟩
    | lst h1 _ => exact ⟨_, rfl, _, _, _, _, false, rfl, .ty _, tyL h1, kit_ty (by decide +kernel), _, rfl, iteT q⟩
    | tup h1 _ => exact ⟨_, rfl, _, _, _, _, false, rfl, .ty _, tyT h1, kit_ty (by decide +kernel), _, rfl, iteT q⟩
  obtain ⟨z, rfl, hz, q⟩ := h
  refine ⟨_, rfl, _, _, _, _, true, rfl, .ty _, .base (.str _), kit_ty (by decide +kernel), _, rfl, ?_⟩
  refine iteF ?_
  refine ⟨_, rfl, _, rfl, hz, _, _, rfl, rfl, _, rfl, ?_⟩
  have no : ∀ b : Bool, isWord z = b → Q (.bl b) H := fun b e => by rw [← e]; exact q
  by_cases c1 : 1 ≤ (z.length : Int)
  case neg =>
    rw [decide_eq_false c1]
    exact iteF ⟨_, rfl, iteT (no false (by unfold isWord; rw [decide_eq_false (by omega)]; rfl))⟩
  rw [decide_eq_true c1]
  refine iteT ?_
  refine ⟨_, _, rfl, rfl, _, rfl, ?_⟩
  by_cases c2 : (z.length : Int) ≤ 6
  case neg =>
    rw [decide_eq_false c2]
    exact iteT (no false (by unfold isWord; rw [decide_eq_false (by omega : ¬ z.length ≤ 6), Bool.and_false]; rfl))
  rw [decide_eq_true c2]
  refine iteF ?_
  have e0 : isWord z = z.cps.toList.all isLet := by
    unfold isWord
    rw [decide_eq_true (by omega), decide_eq_true (by omega)]
    rfl
  refine ⟨_, rfl, _, rfl, for_it walk_str (fun i σ H' => H' = H ∧ (∃ v, σ = [some (.str z), v]) ∧ (z.cps.toList.take i).all isLet = true) ⟨rfl, ⟨_, rfl⟩, rfl⟩ (fun _ _ _ _ _ => trivial) ?_ ?_⟩
  · rintro i x σ H1 H2 hi ⟨rfl, ⟨v, rfl⟩, ha⟩ ⟨rfl, c, hc, rfl⟩
    refine ⟨_, rfl, c, _, rfl, rfl, _, rfl, ?_⟩
    have hc' : z.cps.toList[i]? = some c := by simpa using hc
    by_cases m : c ∈ ("abcdefghijklmnopqrstuvwxyz" : Str).cps.toList
    · rw [decide_eq_true m]
      refine iteF ⟨rfl, ⟨_, rfl⟩, ?_⟩
      rw [List.take_add_one, hc', List.all_append, ha]
      show ([c].all isLet) = true
      simp only [List.all_cons, List.all_nil, Bool.and_true]
      exact decide_eq_true m
    · rw [decide_eq_false m]
      refine iteT (no false (e0.trans ?_))
      rw [List.all_eq_false]
      exact ⟨c, List.mem_of_getElem? hc', by unfold isLet; rw [decide_eq_false m]; exact Bool.false_ne_true⟩
  · rintro σ H1 ⟨rfl, ⟨v, rfl⟩, ha⟩
    refine no true (e0.trans ?_)
    rw [← ha, List.take_of_length_le (by simp)]
theorem c_is_word (T : Top w K mg) : Cal P w K mg base CX0 1 "is_word" spIsWord := (cg_is_word T).imp fun _ _ _ _ => Or.inl
end
end RM

set_option Elab.async false
set_option linter.all false
set_option maxRecDepth 100000
set_option maxHeartbeats 2000000
namespace RM
open PySem PySem.Spec PyProof.Rows L2
section
variable {P : Program} {w : World} {K : PySem.W.Frag} {mg : Str → Option Value} {base : Heap}
/-! ### is_item -/
inductive ItemOk (K : PySem.W.Frag) (H : Hp) : V → Nat → Prop where
  | k {z : Str} (h : isWord z = true) : ItemOk K H (.str z) 107
  | v {n : Int} (h : isValue n = true) : ItemOk K H (.int n) 118
  | t {n : Int} (h0 : 0 ≤ n) (h3 : n ≤ 3) : ItemOk K H (.int n) 116
  | b {a : Addr} {xs : List V} (h : SqL K H a xs ∨ SqT K H a xs) : ItemOk K H (.ref a) 98
def spIsItem (K : PySem.W.Frag) : Sp := fun vs H Q _ => match vs with
  | [x, f] => ∃ c, f = .str ⟨#[c]⟩ ∧ ItemOk K H x c ∧ ∀ H', Same H H' → Q (.bl true) H'
  | _ => False
theorem sc_is_item : FnScope ["value", "form"] ["value", "form"] (defScope s_is_item) := ⟨rfl, rfl, rfl, by decide +kernel, rfl, by decide +kernel, by decide +kernel⟩
theorem c_is_item (T : Top w K mg) : Cal P w K mg base CX0 2 "is_item" (spIsItem K) := by
  refine cal_0 (f_is_item T) (g_is_item T) sc_is_item (fun _ _ _ _ _ _ us hl => match us, hl with | [_, _], _ => rfl) (fun vs H Q E h => match vs, h with | [_, _], _ => rfl) (fun cdv A outer s H vs Q E hr h => ?_)
  match vs, h with
  | [x, f], h =>
  obtain ⟨c, rfl, ok, q⟩ := h
  refine ⟨_, (pss_cons (ps_if (pt_cmpR op_eq (pv 1) pe_str (nomark _))
      (pss_one (ps_ret (pc (c_is_word T) hr (pa_cons (pv 0) pa_nil))))
      pss_nil)
    (pss_cons (ps_if (pt_cmpR op_eq (pv 1) pe_str (nomark _))
      (pss_one (ps_ret (pc (c_is_value T) hr (pa_cons (pv 0) pa_nil))))
      pss_nil)
    (pss_cons (ps_if (pt_cmpR op_eq (pv 1) pe_str (nomark _))
      (pss_one (ps_ret (pe_and (pc (c_is_value T) hr (pa_cons (pv 0) pa_nil)) (pe_one (pe_chain op_le op_le pe_int (pv 0) pe_int)))))
      pss_nil)
    (pss_one (ps_ret (pcb (z_isinstance T) call_isiT boot_isinstance (pa_cons (pv 0) (pa_cons (pe_tup (pa_cons (pty (z_list T) boot_list) (pa_cons (pty (z_tuple T) boot_tuple) pa_nil))) pa_nil)))))))), ?_⟩
  have q0 := q H (Same.refl H)
  cases ok with
  | k hz =>
    refine ⟨_, rfl, rfl, _, rfl, ifT (by decide +kernel) ?_⟩
    exact ⟨_, rfl, _, rfl, word_size hz, by rw [hz]; exact q0⟩
  | v hv =>
    refine ⟨_, rfl, rfl, _, rfl, ifF (by decide +kernel) ?_⟩
    refine ⟨_, rfl, rfl, _, rfl, ifT (by decide +kernel) ?_⟩
    exact ⟨_, rfl, _, rfl, by rw [hv]; exact q0⟩
  | @t n h0 h3 =>
    refine ⟨_, rfl, rfl, _, rfl, ifF (by decide +kernel) ?_⟩
    refine ⟨_, rfl, rfl, _, rfl, ifF (by decide +kernel) ?_⟩
    refine ⟨_, rfl, rfl, _, rfl, ifT (by decide +kernel) ?_⟩
    have hv : isValue n = true := isValue_rep (by rw [decide_eq_true h0, decide_eq_true h3]; rfl)
    refine ⟨_, rfl, _, rfl, _, rfl, ifT hv ?_⟩
    refine ⟨_, rfl, _, _, rfl, rfl, _, rfl, ifT (decide_eq_true h0) ⟨_, _, rfl, rfl, ?_⟩⟩
    exact qT (decide_eq_true h3) q0
  | b ha =>
    refine ⟨_, rfl, rfl, _, rfl, ifF (by decide +kernel) ?_⟩
    refine ⟨_, rfl, rfl, _, rfl, ifF (by decide +kernel) ?_⟩
    refine ⟨_, rfl, rfl, _, rfl, ifF (by decide +kernel) ?_⟩
    refine ⟨_, rfl, (by show 2 ≤ sizeLine; decide), fun p hp => ?_⟩
    have s1 : Same H (upd H p (.tup [.ty "list", .ty "tuple"])) := smNew1 hp _
    rcases ha with ha | ha
    · exact ⟨_, p, _, _, [.type "list", .type "tuple"], true, rfl, upd_same, .cons (.ty _) (.cons (.ty _) .nil), tyL (s1.seq ha), kitAny_cons (b := true) (kit_ty (by decide +kernel)) (fun z => by cases z) (fun _ => rfl), q _ s1⟩
    · exact ⟨_, p, _, _, [.type "list", .type "tuple"], true, rfl, upd_same, .cons (.ty _) (.cons (.ty _) .nil), tyT (smT s1 ha), kitAny_cons (b := false) (kit_ty (by decide +kernel)) (fun _ => kitAny_cons (b := true) (kit_ty (by decide +kernel)) (fun z => by cases z) (fun _ => rfl)) (fun z => by cases z), q _ s1⟩
/-! ### the table of forms -/
theorem forms (T : Top w K mg) (s : Stm) : ∃ es m, KDict K w (He.ga K "FORMS") es m ∧ ∃ u, PySem.W.nsIn K (He.ga K "FORMS") s.word = some (some u) ∧ RelV (.str s.form) u := by
  obtain ⟨es, m, D⟩ := t_FORMS T
  refine ⟨es, m, D, ?_⟩
  have h := v_FORMS T
  cases s <;> first
    | exact He.valsB_ok h (q := ("read", .str "kk")) (by simp [tab_FORMS])
    | exact He.valsB_ok h (q := ("set", .str "kv")) (by simp [tab_FORMS])
    | exact He.valsB_ok h (q := ("copy", .str "kk")) (by simp [tab_FORMS])
    | exact He.valsB_ok h (q := ("print", .str "k")) (by simp [tab_FORMS])
    | exact He.valsB_ok h (q := ("say", .str "v")) (by simp [tab_FORMS])
    | exact He.valsB_ok h (q := ("wait", .str "")) (by simp [tab_FORMS])
    | exact He.valsB_ok h (q := ("if", .str "kvbb")) (by simp [tab_FORMS])
    | exact He.valsB_ok h (q := ("same", .str "kkbb")) (by simp [tab_FORMS])
    | exact He.valsB_ok h (q := ("repeat", .str "tb")) (by simp [tab_FORMS])
    | exact He.valsB_ok h (q := ("stop", .str "")) (by simp [tab_FORMS])
theorem kd_form (T : Top w K mg) (s : Stm) : KDct K w (He.ga K "FORMS") s.word (.str s.form) := by
  obtain ⟨es, m, D, u, h, r⟩ := forms T s
  exact ⟨es, m, u, D.1, D.2, h, r⟩
/-! ### a statement as a tuple -/
/-- x stands for a statement: its word, its items -/
def ShapeS (K : PySem.W.Frag) (H : Hp) (x : V) (s : Stm) (fl : Bool) : Prop :=
  ∃ a xs, x = .ref a ∧ SqT K H a (.str s.word :: xs) ∧ DpAll K H xs (s.flats ++ s.bodies.map fun b => seqD fl (encB fl b))
theorem shape_of {H : Hp} {x : V} {s : Stm} {fl : Bool} (h : Dp K H x (encS fl s)) : ShapeS K H x s fl := by
  rw [encS_eq] at h
  obtain ⟨a, xs, rfl, hq, hd⟩ := Dp.tup_inv h
  obtain ⟨v, r, rfl, h1, h2⟩ := DpAll.cons_inv hd
  rw [Dp.str_inv h1] at hq
  exact ⟨a, r, rfl, hq, h2⟩
theorem form_len (s : Stm) : s.form.cps.size = s.flats.length + s.bodies.length := by
  cases s <;> (simp only [Stm.form, Stm.flats, Stm.bodies, List.length_cons, List.length_nil]; decide +kernel)
theorem word_sz (s : Stm) : s.word.length ≤ sizeLine ∧ s.form.length ≤ sizeLine := by
  have h : s.word.length ≤ 1000 ∧ s.form.length ≤ 1000 := by cases s <;> (simp only [Stm.form, Stm.word]; decide +kernel)
  exact ⟨Nat.le_of_lt (small1000 h.1), Nat.le_of_lt (small1000 h.2)⟩
theorem form_five (s : Stm) : s.form.cps.size ≤ 4 := by cases s <;> (simp only [Stm.form]; decide +kernel)
theorem ShapeS.items {H : Hp} {xs : List V} {s : Stm} {fl : Bool} (h : DpAll K H xs (s.flats ++ s.bodies.map fun b => seqD fl (encB fl b))) : xs.length = s.form.cps.size := by
  rw [form_len, DpAll.len h, List.length_append, List.length_map]
/-- each item is what its sign says -/
theorem item_ok {H : Hp} {xs : List V} {s : Stm} {fl : Bool} (hw : wl s = true) (h : DpAll K H xs (s.flats ++ s.bodies.map fun b => seqD fl (encB fl b))) {i c : Nat} {x : V} (hx : xs[i]? = some x) (hc : s.form.cps[i]? = some c) : ItemOk K H x c := by
  obtain ⟨d, hd, dp⟩ := DpAll.getV h hx
  have seqOk : ∀ {ds : List PyData}, Dp K H x (seqD fl ds) → ItemOk K H x 98 := fun {ds} q => by
    obtain ⟨a, ys, rfl, hs, _⟩ := seqD_inv q
    exact .b hs
  cases s with
  | read v k =>
    simp only [wl, Bool.and_eq_true] at hw
    match i, hd, hc with
    | 0, hd, hc => cases hd; cases hc; rw [Dp.str_inv dp]; exact .k hw.1
    | 1, hd, hc => cases hd; cases hc; rw [Dp.str_inv dp]; exact .k hw.2
    | n + 2, hd, hc => simp [Stm.flats, Stm.bodies] at hd
  | set v n =>
    simp only [wl, Bool.and_eq_true] at hw
    match i, hd, hc with
    | 0, hd, hc => cases hd; cases hc; rw [Dp.str_inv dp]; exact .k hw.1
    | 1, hd, hc => cases hd; cases hc; rw [Dp.int_inv dp]; exact .v hw.2
    | n + 2, hd, hc => simp [Stm.flats, Stm.bodies] at hd
  | copy v u =>
    simp only [wl, Bool.and_eq_true] at hw
    match i, hd, hc with
    | 0, hd, hc => cases hd; cases hc; rw [Dp.str_inv dp]; exact .k hw.1
    | 1, hd, hc => cases hd; cases hc; rw [Dp.str_inv dp]; exact .k hw.2
    | n + 2, hd, hc => simp [Stm.flats, Stm.bodies] at hd
  | print v =>
    match i, hd, hc with
    | 0, hd, hc => cases hd; cases hc; rw [Dp.str_inv dp]; exact .k hw
    | n + 1, hd, hc => simp [Stm.flats, Stm.bodies] at hd
  | say n =>
    match i, hd, hc with
    | 0, hd, hc => cases hd; cases hc; rw [Dp.int_inv dp]; exact .v hw
    | n + 1, hd, hc => simp [Stm.flats, Stm.bodies] at hd
  | wait => simp [Stm.flats, Stm.bodies] at hd
  | stop => simp [Stm.flats, Stm.bodies] at hd
  | ite v n a b =>
    simp only [wl, Bool.and_eq_true] at hw
    match i, hd, hc with
    | 0, hd, hc => cases hd; cases hc; rw [Dp.str_inv dp]; exact .k hw.1
    | 1, hd, hc => cases hd; cases hc; rw [Dp.int_inv dp]; exact .v hw.2
    | 2, hd, hc => cases hc; exact seqOk (ds := encB fl a) (by cases hd; exact dp)
    | 3, hd, hc => cases hc; exact seqOk (ds := encB fl b) (by cases hd; exact dp)
    | n + 4, hd, hc => simp [Stm.flats, Stm.bodies] at hd
  | same v u a b =>
    simp only [wl, Bool.and_eq_true] at hw
    match i, hd, hc with
    | 0, hd, hc => cases hd; cases hc; rw [Dp.str_inv dp]; exact .k hw.1
    | 1, hd, hc => cases hd; cases hc; rw [Dp.str_inv dp]; exact .k hw.2
    | 2, hd, hc => cases hc; exact seqOk (ds := encB fl a) (by cases hd; exact dp)
    | 3, hd, hc => cases hc; exact seqOk (ds := encB fl b) (by cases hd; exact dp)
    | n + 4, hd, hc => simp [Stm.flats, Stm.bodies] at hd
  | rep n a =>
    simp only [wl, Bool.and_eq_true] at hw
    match i, hd, hc with
    | 0, hd, hc => cases hd; cases hc; rw [Dp.int_inv dp]; exact .t (of_decide_eq_true hw.1) (of_decide_eq_true hw.2)
    | 1, hd, hc => cases hc; exact seqOk (ds := encB fl a) (by cases hd; exact dp)
    | n + 2, hd, hc => simp [Stm.flats, Stm.bodies] at hd
/-! ### is_statement -/
def spIsStm (K : PySem.W.Frag) : Sp := fun vs H Q _ => match vs with
  | [x] => ∃ (fl : Bool) (s : Stm), Dp K H x (encS fl s) ∧ wl s = true ∧ ∀ H', Same H H' → Q (.bl true) H'
  | _ => False
theorem sc_is_statement : FnScope ["value", "form", "item", "sign"] ["value"] (defScope s_is_statement) := ⟨rfl, rfl, rfl, by decide +kernel, rfl, by decide +kernel, by decide +kernel⟩
theorem c_is_statement (T : Top w K mg) : Cal P w K mg base CX0 3 "is_statement" (spIsStm K) := by
  refine cal_0 (f_is_statement T) (g_is_statement T) sc_is_statement (fun _ _ _ _ _ _ us hl => match us, hl with | [_], _ => rfl) (fun vs H Q E h => match vs, h with | [_], _ => rfl) (fun cdv A outer s H vs Q E hr h => ?_)
  match vs, h with
  | [x], h =>
  obtain ⟨fl, s, hd, hw, q⟩ := h
  obtain ⟨es, m, D, u, hu, ru⟩ := forms T s
  obtain ⟨a, xs, rfl, ha, hx⟩ := shape_of hd
  refine ⟨_, (pss_cons (ps_if (PW.pt (pw_or (pt_not (pt_val (pcb (z_isinstance T) call_isi boot_isinstance (pa_cons (pv 0) (pa_cons (pty (z_tuple T) boot_tuple) pa_nil))))) (pw_or (pt_not (pt_truth (pv 0) (by intro _; rfl))) (pw_or (pt_not (pt_val (pcb (z_isinstance T) call_isi boot_isinstance (pa_cons (pe_ix ix_tup (pv 0) pe_int (fun _ _ => rfl)) (pa_cons (pty (z_str T) boot_str) pa_nil))))) (pw_or1 (pt_cmpR (op_notIn_kd D) (pe_ix ix_tup (pv 0) pe_int (fun _ _ => rfl)) (pglR (g_FORMS T)) rfl))))))
      (pss_one (ps_ret pe_bl))
      pss_nil)
    (pss_cons (ps_set (i := 1) sc_is_statement.nd rfl (Or.inl rfl) (pe_ix ix_kdict (pglR (g_FORMS T)) (pe_ix ix_tup (pv 0) pe_int (fun _ _ => rfl)) (fun _ _ => rfl)))
    (pss_cons (ps_if (pt_cmpR op_ne (pcb (z_len T) call_len_seq boot_len (pa_cons (pv 0) pa_nil)) (pe_op op_add (pcb (z_len T) call_len_str boot_len (pa_cons (pv 1) pa_nil)) pe_int) (nomark _))
      (pss_one (ps_ret pe_bl))
      pss_nil)
    (pss_one (ps_ret (pcb (z_all T) (cr_all rfl) boot_all (pa_cons (pe_lc (own := [("item", 2), ("sign", 3)]) rfl sc_is_statement.nd (pi_zipTS (by rfl) (z_zip T) (pa_cons (pe_slice sl_tup (pv 0) (po_some pe_int) po_none) (pa_cons (pv 1) pa_nil))) (blkOk_by (own := [("item", 2), ("sign", 3)]) (N := ["value", "form", "item", "sign"]) (sc := defScope s_is_statement) (by decide +kernel)) (fun _ _ _ _ _ => (pg_tup' (n := 2) (K := K) rfl rfl (pgs_cons (pg_name (i := 2) sc_is_statement.nd rfl (Or.inl rfl) (Or.inr rfl)) (pgs_cons (pg_name (i := 3) sc_is_statement.nd rfl (Or.inl rfl) (Or.inr rfl)) pgs_nil)) rfl rfl)) (fun _ _ _ _ _ => pts_nil) (fun _ _ _ _ _ => (pc (c_is_item T) hr (pa_cons (pv 2) (pa_cons (pv 3) pa_nil))))) pa_nil))))))), ?_⟩
  refine ⟨_, rfl, _, _, _, _, true, rfl, .ty _, tyT ha, kit_ty (by decide +kernel), _, rfl, iteF ?_⟩
  refine ⟨_, rfl, true, Or.inr (Or.inl ⟨_, ha, rfl⟩), iteF ?_⟩
  refine ⟨_, rfl, _, _, _, _, rfl, rfl, ha, at0, ?_⟩
  refine ⟨_, _, _, _, true, rfl, .ty _, .base (.str _), kit_ty (by decide +kernel), _, rfl, iteF ?_⟩
  refine ⟨_, rfl, _, _, _, _, rfl, rfl, ha, at0, _, _, rfl, rfl, hu, _, rfl, iteF ?_⟩
  refine ⟨_, rfl, _, _, _, _, rfl, rfl, ha, at0, _, _, _, rfl, rfl, ⟨es, m, u, D.1, D.2, hu, ru⟩, ?_⟩
  have hl : xs.length = s.form.cps.size := ShapeS.items hx
  refine ⟨_, rfl, _, _, rfl, .inr ha, _, rfl, _, rfl, (word_sz s).2, _, _, rfl, rfl, rfl, _, rfl, ifF ?_ ?_⟩
  · rw [Bool.not_eq_false', decide_eq_true_eq]
    show V.int (((V.str s.word :: xs).length : Nat) : Int) = V.int ((s.form.length : Int) + 1)
    rw [List.length_cons, hl]
    rfl
  -- all([is_item(item, sign) for item, sign in zip(value[1:], form)])
  refine ⟨_, rfl, _, rfl, _, _, rfl, ha, cut_not, fun p hp => ?_⟩
  rw [cut_tail]
  have s1 : Same H (upd H p (.tup xs)) := smNew1 hp _
  refine ⟨_, rfl, _, xs, _, rfl, SqT.of upd_same, fun D nD => ?_⟩
  have i4 := form_five s
  refine lc_opt (walk_zipTS hl) (fun (_ : Unit) y _ => y = .bl true) (fun _ => some ()) nD (small1000 (by omega)) (fun H' e => smT e (SqT.of upd_same)) (fun _ _ _ _ h _ => h) (fun _ _ _ _ _ h _ => h) ?_ ?_
  · rintro i x H1 H2 N hi e ⟨t, y, z, rfl, ht, rfl, hy, hz⟩ hk _
    obtain ⟨c, hc, rfl⟩ := Option.map_eq_some_iff.mp hz
    refine ⟨t, _, rfl, SqT.of upd_same, rfl, _, _, rfl, _, _, rfl, rfl, rfl, ?_⟩
    refine yesI ?_
    have sx : Same H (upd H1 t (.tup [y, .str ⟨#[c]⟩])) := smNew (fun b o q => e b o (s1 b o q)) ht _
    refine ⟨_, rfl, _, rfl, c, rfl, item_ok hw (DpAll.keep sx hx) hy hc, fun H3 s3 => ?_⟩
    exact hk _ _ () rfl (fun b o q => s3 b o (smNew1 ht _ b o q)) rfl
  · intro H' ys e hD hp'
    rw [paired_const hp', range_some, List.length_map, List.length_range, rep_bl] at hD
    exact ⟨_, _, rfl, SqL.of hD, qT (all_rep _) (q _ fun b o z => e _ _ (s1 b o z))⟩
end
end RM

set_option Elab.async false
set_option linter.all false
set_option maxRecDepth 100000
set_option maxHeartbeats 2000000
namespace RM
open PySem PySem.Spec PyProof.Rows L2
theorem flats_flat (s : Stm) : ∀ d ∈ s.flats, (∃ z, d = .str z) ∨ ∃ n, d = .int n := by
  cases s <;> simp [Stm.flats]
theorem filterMap_at2 {α β : Type} (l : List α) (f : α → Option β) : (List.range l.length).filterMap (fun i => (l[i]?).bind f) = l.filterMap f := by
  have := congrArg (List.filterMap f) (some_range l)
  rw [List.filterMap_filterMap] at this
  exact this
/-- the items behind the first k -/
theorem bodies_from {α β : Type} (k : Nat) (l : List α) (g : α → β) : (List.range (k + l.length)).filterMap (fun i => if i < k then none else (l[i - k]?).map g) = l.map g := by
  have e : ∀ n, n ≤ l.length → (List.range (k + n)).filterMap (fun i => if i < k then none else (l[i - k]?).map g) = (l.take n).map g := by
    intro n
    induction n with
    | zero =>
      intro _
      rw [Nat.add_zero, List.take_zero]
      show _ = []
      rw [List.filterMap_eq_nil_iff]
      intro i hi
      rw [if_pos (List.mem_range.mp hi)]
    | succ n ih =>
      intro hn
      have hl : n < l.length := by omega
      rw [show k + (n + 1) = (k + n) + 1 from rfl, List.range_succ, List.filterMap_append, ih (by omega), take_more (List.getElem?_eq_getElem hl), List.map_append, List.filterMap_cons, if_neg (by omega), Nat.add_sub_cancel_left, List.getElem?_eq_getElem hl]
      rfl
  rw [e _ (Nat.le_refl _), List.take_length]
/-- the i-th item of a statement behind its word -/
theorem item_at (s : Stm) (f : List Stm → PyData) {i : Nat} {d : PyData} (h : (s.flats ++ s.bodies.map f)[i]? = some d) :
    (i < s.flats.length ∧ ((∃ z, d = .str z) ∨ ∃ n, d = .int n)) ∨ (¬ i < s.flats.length ∧ ∃ b, b ∈ s.bodies ∧ s.bodies[i - s.flats.length]? = some b ∧ d = f b) := by
  by_cases hi : i < s.flats.length
  · rw [List.getElem?_append_left hi] at h
    exact .inl ⟨hi, flats_flat s d (List.mem_of_getElem? h)⟩
  · rw [List.getElem?_append_right (by omega), List.getElem?_map] at h
    obtain ⟨b, hb, e⟩ := Option.map_eq_some_iff.mp h
    exact .inr ⟨hi, b, List.mem_of_getElem? hb, hb, e.symm⟩
/-! ### sizes, prints -/
mutual
/-- how many prints are counted -/
def pS : Stm → Nat
  | .print _ => 1
  | .ite _ _ a b => max (pB a) (pB b)
  | .same _ _ a b => max (pB a) (pB b)
  | .rep n a => n.toNat * pB a
  | _ => 0
def pB : List Stm → Nat
  | [] => 0
  | s :: r => pS s + pB r
end
def cBs : List (List Stm) → Nat
  | [] => 0
  | b :: r => cB b + cBs r
theorem cS_eq (s : Stm) : cS s = 1 + cBs s.bodies := by
  cases s <;> simp [cS, Stm.bodies, cBs] <;> omega
theorem cBs_sum : ∀ l : List (List Stm), ((l.map fun b => ((cB b : Nat) : Int)).sum) = ((cBs l : Nat) : Int)
  | [] => rfl
  | b :: r => by
    rw [List.map_cons, List.sum_cons, cBs_sum r, cBs]
    omega
theorem pB_app : ∀ (l m : List Stm), pB (l ++ m) = pB l + pB m
  | [], m => by simp [pB]
  | s :: r, m => by rw [List.cons_append, pB, pB, pB_app r m, Nat.add_assoc]
theorem cB_app' : ∀ (l m : List Stm), cB (l ++ m) = cB l + cB m
  | [], m => by simp [cB]
  | s :: r, m => by rw [List.cons_append, cB, cB, cB_app' r m, Nat.add_assoc]
theorem cB_take {l : List Stm} {i : Nat} {s : Stm} (h : l[i]? = some s) : cB (l.take (i + 1)) = cB (l.take i) + cS s := by
  rw [take_more h, cB_app']
  show _ + (cS s + 0) = _
  omega
theorem pB_take {l : List Stm} {i : Nat} {s : Stm} (h : l[i]? = some s) : pB (l.take (i + 1)) = pB (l.take i) + pS s := by
  rw [take_more h, pB_app]
  show _ + (pS s + 0) = _
  omega
end RM

set_option Elab.async false
set_option linter.all false
set_option maxRecDepth 100000
set_option maxHeartbeats 4000000
namespace RM
open PySem PySem.Spec PyProof.Rows L2
theorem ty_flat {K : PySem.W.Frag} {H : Hp} {x : V} {d : PyData} (h : Dp K H x d) (f : (∃ z, d = .str z) ∨ ∃ n, d = .int n) : ∃ t, TyX K H x t ∧ PySem.W.kitAny K t [.type "list", .type "tuple"] = some false := by
  rcases f with ⟨z, rfl⟩ | ⟨n, rfl⟩
  · obtain rfl := Dp.str_inv h
    exact ⟨.type "str", .base (.str _), kitAny_cons (b := false) (kit_ty (by decide +kernel)) (fun _ => kitAny_cons (b := false) (kit_ty (by decide +kernel)) (fun _ => rfl) (fun z => by cases z)) (fun z => by cases z)⟩
  · obtain rfl := Dp.int_inv h
    exact ⟨.type "int", .base (.int _), kitAny_cons (b := false) (kit_ty (by decide +kernel)) (fun _ => kitAny_cons (b := false) (kit_ty (by decide +kernel)) (fun _ => rfl) (fun z => by cases z)) (fun z => by cases z)⟩
section
variable {P : Program} {w : World} {K : PySem.W.Frag} {mg : Str → Option Value} {base : Heap}
/-! ### _law_size -/
def spLSize (K : PySem.W.Frag) (n : Nat) : Sp := fun vs H Q _ => match vs with
  | [b] => ∃ (fl : Bool) (l : List Stm), Dp K H b (seqD fl (encB fl l)) ∧ dB l ≤ n ∧ ∀ H', Same H H' → Q (.int (cB l : Nat)) H'
  | _ => False
theorem sc_law_size : FnScope ["_law_body_here", "_law_many", "_law_one", "_law_part"] ["_law_body_here"] (defScope s_law_size) := ⟨rfl, rfl, rfl, by decide +kernel, rfl, by decide +kernel, by decide +kernel⟩
theorem ok_law_size (T : Top w K mg) {n : Nat} (ih : Cal P w K mg base CX0 (n + 1) "_law_size" (spLSize K n)) : Cal P w K mg base CX0 (n + 2) "_law_size" (spLSize K (n + 1)) := by
  refine cal_0 (f_law_size T) (g_law_size T) sc_law_size (fun _ _ _ _ _ _ us hl => match us, hl with | [_], _ => rfl) (fun vs H Q E h => match vs, h with | [_], _ => rfl) (fun cdv A outer s H vs Q E hr h => ?_)
  match vs, h with
  | [b], h =>
  obtain ⟨fl, l, hb, hn, q⟩ := h
  obtain ⟨a, xs, rfl, ha, hx⟩ := seqD_inv hb
  have lx : xs.length = l.length := by rw [DpAll.len hx, encB_map, List.length_map]
  refine ⟨_, (pss_cons (ps_set (i := 1) sc_law_size.nd rfl (Or.inl rfl) (pcb (z_len T) call_len_seq boot_len (pa_cons (pv 0) pa_nil)))
    (pss_cons (ps_for PassesOwn.never rfl (pi_seqA (pv 0)) (pg_name (i := 2) sc_law_size.nd rfl (Or.inl rfl))
      (pss_one (ps_set (i := 1) sc_law_size.nd rfl (Or.inl rfl) (pe_op op_add (pv 1) (pcb (z_sum T) (cr_sum rfl) boot_sum (pa_cons (pe_lc (own := [("_law_part", 3)]) rfl sc_law_size.nd (pi_seqA (pe_slice sl_tup (pv 2) (po_some pe_int) po_none)) (blkOk_by (own := [("_law_part", 3)]) (N := ["_law_body_here", "_law_many", "_law_one", "_law_part"]) (sc := defScope s_law_size) (by decide +kernel)) (fun _ _ _ _ _ => (pg_name (i := 3) sc_law_size.nd rfl (Or.inl rfl) (Or.inr rfl))) (fun _ _ _ _ _ => (pts_one (pt_val (pcb (z_isinstance T) (call_isiT' (K := K) rfl) boot_isinstance (pa_cons (pv 3) (pa_cons (pe_tup (pa_cons (pty (z_list T) boot_list) (pa_cons (pty (z_tuple T) boot_tuple) pa_nil))) pa_nil)))))) (fun _ _ _ _ _ => (pc ih hr (pa_cons (pv 3) pa_nil)))) pa_nil))))))
    (pss_one (ps_ret (pv 1))))), ?_⟩
  refine ⟨_, rfl, a, xs, rfl, ha, ?_⟩
  refine ⟨_, rfl, ?_⟩
  refine seqA_of ha (Same.refl H) fun J wk => ?_
  refine for_it wk (fun i σ H' => Same H H' ∧ ∃ v2 v3, σ = [some (.ref a), some (.int (((cB (l.take i) + (l.length - i) : Nat)) : Int)), v2, v3]) ⟨Same.refl H, none, none, ?_⟩ (fun i σ H' _ h => h.1) ?_ ?_
  · rw [List.take_zero, ← lx]
    show _ = [_, some (V.int ((0 + (xs.length - 0) : Nat) : Int)), _, _]
    rw [Nat.zero_add, Nat.sub_zero]
    rfl
  · rintro i x σ H1 H2 hi ⟨s1, v2, v3, rfl⟩ ⟨rfl, hx1⟩
    obtain ⟨d, hd1, hd2⟩ := DpAll.getV hx hx1
    obtain ⟨st, hst, rfl⟩ := encB_get hd1
    have hm : st ∈ l := List.mem_of_getElem? hst
    have dm := dB_mem hm
    obtain ⟨sa, sxs, rfl, hsa, hsx⟩ := shape_of (Dp.keep s1 hd2)
    refine ⟨_, rfl, ?_⟩
    refine ⟨_, rfl, _, rfl, _, _, rfl, hsa, cut_not, fun p hp => ?_⟩
    rw [cut_tail]
    have s2 := smNew1 hp (.tup sxs)
    refine seqA_of (.inr (SqT.of upd_same)) (Same.refl _) fun J2 wk2 => ?_
    intro D nD
    have hl : sxs.length = st.flats.length + st.bodies.length := by
      rw [DpAll.len hsx, List.length_append, List.length_map]
    refine lc_opt wk2 (fun (c : Nat) y _ => y = .int (c : Nat)) (fun i => if i < st.flats.length then none else (st.bodies[i - st.flats.length]?).map cB) nD (small1000 (by have := form_five st; have := ShapeS.items hsx; omega)) (fun H' e => e) (fun _ _ _ _ h _ => h) (fun _ _ _ _ _ h _ => h) ?_ ?_
    · rintro j y H3 H4 N hj e ⟨rfl, hy⟩ hk hno
      obtain ⟨d, hd3, hd4⟩ := DpAll.getV hsx hy
      have hd5 := Dp.keep (s2.trans e) hd4
      refine ⟨rfl, ?_⟩
      refine ⟨_, rfl, (by show 2 ≤ sizeLine; decide), fun p2 hp2 => ?_⟩
      have s3 := smNew1 hp2 (.tup [.ty "list", .ty "tuple"])
      rcases item_at st _ hd3 with ⟨hf, hflat⟩ | ⟨hf, bd, hbm, hba, rfl⟩
      · obtain ⟨ty, ht, hk2⟩ := ty_flat (Dp.keep s3 hd5) hflat
        refine ⟨_, p2, _, ty, _, false, rfl, upd_same, .cons (.ty _) (.cons (.ty _) .nil), ht, hk2, _, rfl, ifF rfl ?_⟩
        exact hno (if_pos hf) _ s3
      · obtain ⟨ba, bxs, rfl, hb1, hb2⟩ := seqD_inv hd5
        obtain ⟨ty, ht, hk2⟩ := ty_seq hb1 s3
        refine ⟨_, p2, _, ty, _, true, rfl, upd_same, .cons (.ty _) (.cons (.ty _) .nil), ht, hk2, _, rfl, ifT rfl ?_⟩
        have := dS_mem hbm
        refine ⟨_, rfl, fl, bd, Dp.keep s3 hd5, by omega, fun H5 e5 => ?_⟩
        exact hk _ _ (cB bd) (by rw [if_neg hf, hba]; rfl) (s3.trans e5) rfl
    · intro H3 ys e hD hp'
      rw [hl, bodies_from] at hp'
      have hys := paired_eq hp'
      have hys2 : ys = ((st.bodies.map cB).map fun c : Nat => (c : Int)).map V.int := by rw [hys, List.map_map, List.map_map, List.map_map]; rfl
      refine ⟨D, _, rfl, SqL.of (by rw [hD, hys2]), ?_⟩
      refine ⟨_, _, rfl, rfl, ?_⟩
      refine ⟨s1.trans (s2.trans e), some (.ref sa), v3, ?_⟩
      have e1 : V.int (((cB (l.take i) + (l.length - i) : Nat) : Int) + ((st.bodies.map cB).map fun c : Nat => (c : Int)).sum) = V.int ((cB (l.take (i + 1)) + (l.length - (i + 1)) : Nat) : Int) := by
        rw [cB_take hst, cS_eq, List.map_map]
        have := cBs_sum st.bodies
        have e2 : (st.bodies.map ((fun c : Nat => (c : Int)) ∘ cB)) = st.bodies.map fun b => ((cB b : Nat) : Int) := rfl
        rw [e2, this]
        exact congrArg V.int (by omega)
      rw [← e1]
      rfl
  · rintro σ H1 ⟨s1, v2, v3, rfl⟩
    refine ⟨_, rfl, ?_⟩
    rw [lx, List.take_length, Nat.sub_self, Nat.add_zero]
    exact q H1 s1
theorem c_law_size (T : Top w K mg) : ∀ n, Cal P w K mg base CX0 (n + 1) "_law_size" (spLSize K n)
  | 0 => cal_never (f_law_size T) (g_law_size T) (ps := ["_law_body_here"]) (fun _ _ _ _ _ _ us hl => match us, hl with | [_], _ => rfl) fun vs H Q E h => by
      match vs, h with
      | [b], h =>
      obtain ⟨fl, l, _, hn, _⟩ := h
      have := dB_one l
      omega
  | n + 1 => ok_law_size T (c_law_size T n)
/-! ### _law_prints -/
def isP : Stm → Bool
  | .print _ => true | _ => false
def turnsS : Stm → Int
  | .rep n _ => n | _ => 1
def pM : Stm → Nat
  | .print _ => 1 | .ite _ _ a b => max (pB a) (pB b) | .same _ _ a b => max (pB a) (pB b) | .rep _ a => pB a | _ => 0
theorem isP_word (s : Stm) : decide (V.str s.word = V.str "print") = isP s := by
  cases s <;> rfl
theorem word_rep (s : Stm) : s.word = "repeat" ↔ ∃ n a, s = .rep n a := by
  constructor
  · intro h
    cases s <;> first | exact ⟨_, _, rfl⟩ | exact absurd (show _ = (_ : Str) from h) (by simp only [Stm.word]; decide)
  · rintro ⟨n, a, rfl⟩
    rfl
def pNs (s : Stm) : List Int := (if isP s = true then 1 else 0) :: s.bodies.map fun b => ((pB b : Nat) : Int)
theorem pMax {s : Stm} {m : Int} (h1 : m ∈ pNs s) (h2 : ∀ y ∈ pNs s, y ≤ m) : m = (pM s : Nat) := by
  unfold pNs at h1 h2
  cases s <;> simp only [isP, Stm.bodies, List.map_nil, List.map_cons, List.mem_cons, List.not_mem_nil, or_false, if_true, if_false, Bool.false_eq_true, forall_eq_or_imp, forall_eq, pM] at h1 h2 ⊢ <;> omega
theorem pS_eq {s : Stm} (h : wS s = true) : turnsS s * ((pM s : Nat) : Int) = ((pS s : Nat) : Int) := by
  cases s <;> simp only [turnsS, pM, pS, Int.one_mul]
  rename_i n a
  simp only [wS, Bool.and_eq_true, decide_eq_true_eq] at h
  have : (n.toNat : Int) = n := by omega
  rw [Int.natCast_mul, this]
def spLPrints (K : PySem.W.Frag) (n : Nat) : Sp := fun vs H Q _ => match vs with
  | [b] => ∃ (fl : Bool) (l : List Stm), Dp K H b (seqD fl (encB fl l)) ∧ wB l = true ∧ dB l ≤ n ∧ ∀ H', Same H H' → Q (.int (pB l : Nat)) H'
  | _ => False
theorem sc_law_prints : FnScope ["_law_body_here", "_law_many", "_law_one", "_law_inner", "_law_turns", "_law_part"] ["_law_body_here"] (defScope s_law_prints) := ⟨rfl, rfl, rfl, by decide +kernel, rfl, by decide +kernel, by decide +kernel⟩
theorem ok_law_prints (T : Top w K mg) {n : Nat} (ih : Cal P w K mg base CX0 (n + 1) "_law_prints" (spLPrints K n)) : Cal P w K mg base CX0 (n + 2) "_law_prints" (spLPrints K (n + 1)) := by
  refine cal_0 (f_law_prints T) (g_law_prints T) sc_law_prints (fun _ _ _ _ _ _ us hl => match us, hl with | [_], _ => rfl) (fun vs H Q E h => match vs, h with | [_], _ => rfl) (fun cdv A outer s H vs Q E hr h => ?_)
  match vs, h with
  | [b], h =>
  obtain ⟨fl, l, hb, hw, hn, q⟩ := h
  obtain ⟨a, xs, rfl, ha, hx⟩ := seqD_inv hb
  have lx : xs.length = l.length := by rw [DpAll.len hx, encB_map, List.length_map]
  refine ⟨_, (pss_cons (ps_set (i := 1) sc_law_prints.nd rfl (Or.inl rfl) pe_int)
    (pss_cons (ps_for PassesOwn.never rfl (pi_seqA (pv 0)) (pg_name (i := 2) sc_law_prints.nd rfl (Or.inl rfl))
      (pss_cons (ps_setLc (i := 3) (own := [("_law_part", 5)]) rfl sc_law_prints.nd rfl rfl (sw_true rfl rfl rfl (by decide +kernel)) (pi_seqA (pe_slice sl_tup (pv 2) (po_some pe_int) po_none)) (blkOk_by (own := [("_law_part", 5)]) (N := ["_law_body_here", "_law_many", "_law_one", "_law_inner", "_law_turns", "_law_part"]) (sc := defScope s_law_prints) (by decide +kernel)) (fun _ _ _ _ _ => (pg_name (i := 5) sc_law_prints.nd rfl (Or.inl rfl) (Or.inr rfl))) (fun _ _ _ _ _ => (pts_one (pt_val (pcb (z_isinstance T) (call_isiT' (K := K) rfl) boot_isinstance (pa_cons (pv 5) (pa_cons (pe_tup (pa_cons (pty (z_list T) boot_list) (pa_cons (pty (z_tuple T) boot_tuple) pa_nil))) pa_nil)))))) (fun _ _ _ _ _ => (pc ih hr (pa_cons (pv 5) pa_nil))))
    (pss_cons (ps_set (i := 4) sc_law_prints.nd rfl (Or.inl rfl) (pe_ifExp (pt_cmpR op_eq (pe_ix ix_tup (pv 2) pe_int (fun _ _ => rfl)) pe_str (nomark _)) (pe_ix ix_tup (pv 2) pe_int (fun _ _ => rfl)) pe_int))
    (pss_one (ps_set (i := 1) sc_law_prints.nd rfl (Or.inl rfl) (pe_op op_add (pv 1) (pe_op op_mul (pv 4) (pcb (z_max T) (cr_max rfl) boot_max (pa_cons (pe_op op_cat (pe_lst (pa_cons (pct (z_int T) call_int1 boot_int (pa_cons (pe_cmpR op_eq (pe_ix ix_tup (pv 2) pe_int (fun _ _ => rfl)) pe_str (nomark _)) pa_nil)) pa_nil)) (pv 3)) pa_nil)))))))))
    (pss_one (ps_ret (pv 1))))), ?_⟩
  refine ⟨_, rfl, ?_⟩
  refine seqA_of ha (Same.refl H) fun J wk => ?_
  refine for_it wk (fun i σ H' => Same H H' ∧ ∃ v2 v3 v4 v5, σ = [some (.ref a), some (.int ((pB (l.take i) : Nat) : Int)), v2, v3, v4, v5]) ⟨Same.refl H, none, none, none, none, rfl⟩ (fun i σ H' _ h => h.1) ?_ ?_
  · rintro i x σ H1 H2 hi ⟨s1, v2, v3, v4, v5, rfl⟩ ⟨rfl, hx1⟩
    obtain ⟨d, hd1, hd2⟩ := DpAll.getV hx hx1
    obtain ⟨st, hst, rfl⟩ := encB_get hd1
    have hm : st ∈ l := List.mem_of_getElem? hst
    have dm := dB_mem hm
    have ws := wB_all hw st hm
    obtain ⟨sa, sxs, rfl, hsa, hsx⟩ := shape_of (Dp.keep s1 hd2)
    refine ⟨_, rfl, _, rfl, _, _, rfl, hsa, cut_not, fun p hp => ?_⟩
    rw [cut_tail]
    have s2 := smNew1 hp (.tup sxs)
    refine seqA_of (.inr (SqT.of upd_same)) (Same.refl _) fun J2 wk2 => ?_
    intro D nD
    have hl : sxs.length = st.flats.length + st.bodies.length := by
      rw [DpAll.len hsx, List.length_append, List.length_map]
    have hb4 : st.bodies.length ≤ 2 := by cases st <;> simp [Stm.bodies]
    have hl4 : sxs.length ≤ 4 := by have := form_five st; have := ShapeS.items hsx; omega
    refine lc_opt wk2 (fun (c : Nat) y _ => y = .int (c : Nat)) (fun i => if i < st.flats.length then none else (st.bodies[i - st.flats.length]?).map pB) nD (small1000 (by omega)) (fun H' e => e) (fun _ _ _ _ h _ => h) (fun _ _ _ _ _ h _ => h) ?_ ?_
    · rintro j y H3 H4 N hj e ⟨rfl, hy⟩ hk hno
      obtain ⟨d, hd3, hd4⟩ := DpAll.getV hsx hy
      have hd5 := Dp.keep (s2.trans e) hd4
      refine ⟨rfl, ?_⟩
      refine ⟨_, rfl, (by show 2 ≤ sizeLine; decide), fun p2 hp2 => ?_⟩
      have s3 := smNew1 hp2 (.tup [.ty "list", .ty "tuple"])
      rcases item_at st _ hd3 with ⟨hf, hflat⟩ | ⟨hf, bd, hbm, hba, rfl⟩
      · obtain ⟨ty, ht, hk2⟩ := ty_flat (Dp.keep s3 hd5) hflat
        refine ⟨_, p2, _, ty, _, false, rfl, upd_same, .cons (.ty _) (.cons (.ty _) .nil), ht, hk2, _, rfl, ifF rfl ?_⟩
        exact hno (if_pos hf) _ s3
      · obtain ⟨ba, bxs, rfl, hb1, hb2⟩ := seqD_inv hd5
        obtain ⟨ty, ht, hk2⟩ := ty_seq hb1 s3
        refine ⟨_, p2, _, ty, _, true, rfl, upd_same, .cons (.ty _) (.cons (.ty _) .nil), ht, hk2, _, rfl, ifT rfl ?_⟩
        have := dS_mem hbm
        refine ⟨_, rfl, fl, bd, Dp.keep s3 hd5, wB_of ws bd hbm, by omega, fun H5 e5 => ?_⟩
        exact hk _ _ (pB bd) (by rw [if_neg hf, hba]; rfl) (s3.trans e5) rfl
    · intro H3 ys e hD hp'
      rw [hl, bodies_from] at hp'
      have hys := paired_eq hp'
      have hys2 : ys = (st.bodies.map fun b => ((pB b : Nat) : Int)).map V.int := by rw [hys, List.map_map, List.map_map]; rfl
      have s4 : Same H H3 := s1.trans (s2.trans e)
      have hsa3 : SqT K H3 sa (.str st.word :: sxs) := smT (s2.trans e) hsa
      -- the turns
      refine ⟨_, rfl, _, _, _, _, rfl, rfl, hsa3, at0, rfl, _, rfl, ?_⟩
      refine ifB (fun c => ?_) (fun c => ?_)
      · obtain ⟨n', bd, rfl⟩ := (word_rep st).mp (V.str.inj (of_decide_eq_true c))
        obtain ⟨z1, r1, rfl, hz1, hz2⟩ := DpAll.cons_inv hsx
        obtain rfl := Dp.int_inv hz1
        refine ⟨_, rfl, _, _, _, _, rfl, rfl, hsa3, at1, ?_⟩
        have wn : 0 ≤ n' ∧ n' ≤ 3 := by
          simp only [wS, Bool.and_eq_true, decide_eq_true_eq] at ws
          exact ws.1
        refine ⟨_, rfl, _, rfl, _, rfl, _, _, _, _, rfl, rfl, hsa3, at0, rfl, .inr ⟨_, rfl, ?_⟩⟩
        refine ⟨(by show 1 ≤ sizeLine; decide), fun p3 hp3 => ?_⟩
        have s5 := smNew1 hp3 (.lst [.int (if decide (V.str (Stm.rep n' bd).word = V.str "print") = true then 1 else 0)])
        refine ⟨_, rfl, p3, D, _, _, rfl, rfl, upd_same, s5 _ _ hD, Nat.le_of_lt (small1000 (by rw [hys2, List.length_map, List.length_map]; show 1 + (Stm.rep n' bd).bodies.length ≤ 1000; omega)), fun p4 hp4 => ?_⟩
        have hpn : [V.int (if decide (V.str (Stm.rep n' bd).word = V.str "print") = true then 1 else 0)] ++ ys = (pNs (Stm.rep n' bd)).map V.int := by
          rw [hys2, isP_word]
          rfl
        rw [hpn]
        refine ⟨p4, pNs (Stm.rep n' bd), rfl, SqL.of upd_same, by simp [pNs], fun m m1 m2 => ?_⟩
        have em := pMax m1 m2
        subst em
        refine ⟨_, _, rfl, rfl, .inl ⟨by omega, by omega⟩, _, _, rfl, rfl, ?_⟩
        refine ⟨s4.trans (smNew s5 hp4 _), some (.ref sa), some (.ref D), some (.int n'), v5, ?_⟩
        have e1 : V.int (((pB (l.take i) : Nat) : Int) + turnsS (Stm.rep n' bd) * ((pM (Stm.rep n' bd) : Nat) : Int)) = V.int ((pB (l.take (i + 1)) : Nat) : Int) := by
          rw [pS_eq ws, pB_take hst]
          exact congrArg V.int (by omega)
        rw [← e1]
        rfl
      · have et : turnsS st = 1 := by
          cases st <;> first | rfl | exact absurd rfl (of_decide_eq_false c)
        refine ⟨_, rfl, _, rfl, _, rfl, _, _, _, _, rfl, rfl, hsa3, at0, rfl, .inr ⟨_, rfl, ?_⟩⟩
        refine ⟨(by show 1 ≤ sizeLine; decide), fun p3 hp3 => ?_⟩
        have s5 := smNew1 hp3 (.lst [.int (if decide (V.str st.word = V.str "print") = true then 1 else 0)])
        refine ⟨_, rfl, p3, D, _, _, rfl, rfl, upd_same, s5 _ _ hD, Nat.le_of_lt (small1000 (by rw [hys2, List.length_map, List.length_map]; show 1 + st.bodies.length ≤ 1000; omega)), fun p4 hp4 => ?_⟩
        have hpn : [V.int (if decide (V.str st.word = V.str "print") = true then 1 else 0)] ++ ys = (pNs st).map V.int := by
          rw [hys2, isP_word]
          rfl
        rw [hpn]
        refine ⟨p4, pNs st, rfl, SqL.of upd_same, by simp [pNs], fun m m1 m2 => ?_⟩
        have em := pMax m1 m2
        subst em
        refine ⟨_, _, rfl, rfl, .inl ⟨by decide, by decide⟩, _, _, rfl, rfl, ?_⟩
        refine ⟨s4.trans (smNew s5 hp4 _), some (.ref sa), some (.ref D), some (.int 1), v5, ?_⟩
        have e1 : V.int (((pB (l.take i) : Nat) : Int) + 1 * ((pM st : Nat) : Int)) = V.int ((pB (l.take (i + 1)) : Nat) : Int) := by
          rw [← et, pS_eq ws, pB_take hst]
          exact congrArg V.int (by omega)
        rw [← e1]
        rfl
  · rintro σ H1 ⟨s1, v2, v3, v4, v5, rfl⟩
    refine ⟨_, rfl, ?_⟩
    rw [lx, List.take_length]
    exact q H1 s1
theorem c_law_prints (T : Top w K mg) : ∀ n, Cal P w K mg base CX0 (n + 1) "_law_prints" (spLPrints K n)
  | 0 => cal_never (f_law_prints T) (g_law_prints T) (ps := ["_law_body_here"]) (fun _ _ _ _ _ _ us hl => match us, hl with | [_], _ => rfl) fun vs H Q E h => by
      match vs, h with
      | [b], h =>
      obtain ⟨fl, l, _, _, hn, _⟩ := h
      have := dB_one l
      omega
  | n + 1 => ok_law_prints T (c_law_prints T n)
end
end RM

set_option Elab.async false
set_option linter.all false
set_option maxRecDepth 100000
set_option maxHeartbeats 4000000
namespace RM
open PySem PySem.Spec PyProof.Rows L2
section
variable {P : Program} {w : World} {K : PySem.W.Frag} {mg : Str → Option Value} {base : Heap}
/-! ### _law_count -/
theorem sc_law_count : FnScope ["_law_body_here", "_law_many", "_law_one", "_law_part"] ["_law_body_here"] (defScope s_law_count) := ⟨rfl, rfl, rfl, by decide +kernel, rfl, by decide +kernel, by decide +kernel⟩
theorem ok_law_count (T : Top w K mg) {n : Nat} (ih : Cal P w K mg base CX0 (n + 1) "_law_count" (spLSize K n)) : Cal P w K mg base CX0 (n + 2) "_law_count" (spLSize K (n + 1)) := by
  refine cal_0 (f_law_count T) (g_law_count T) sc_law_count (fun _ _ _ _ _ _ us hl => match us, hl with | [_], _ => rfl) (fun vs H Q E h => match vs, h with | [_], _ => rfl) (fun cdv A outer s H vs Q E hr h => ?_)
  match vs, h with
  | [b], h =>
  obtain ⟨fl, l, hb, hn, q⟩ := h
  obtain ⟨a, xs, rfl, ha, hx⟩ := seqD_inv hb
  have lx : xs.length = l.length := by rw [DpAll.len hx, encB_map, List.length_map]
  refine ⟨_, (pss_cons (ps_set (i := 1) sc_law_count.nd rfl (Or.inl rfl) pe_int)
    (pss_cons (ps_for PassesOwn.never rfl (pi_seqA (pv 0)) (pg_name (i := 2) sc_law_count.nd rfl (Or.inl rfl))
      (pss_one (ps_set (i := 1) sc_law_count.nd rfl (Or.inl rfl) (pe_op op_add (pe_op op_add (pv 1) pe_int) (pcb (z_sum T) (cr_sum rfl) boot_sum (pa_cons (pe_lc (own := [("_law_part", 3)]) rfl sc_law_count.nd (pi_seqA (pe_slice sl_tup (pv 2) (po_some pe_int) po_none)) (blkOk_by (own := [("_law_part", 3)]) (N := ["_law_body_here", "_law_many", "_law_one", "_law_part"]) (sc := defScope s_law_count) (by decide +kernel)) (fun _ _ _ _ _ => (pg_name (i := 3) sc_law_count.nd rfl (Or.inl rfl) (Or.inr rfl))) (fun _ _ _ _ _ => (pts_one (pt_val (pcb (z_isinstance T) (call_isiT' (K := K) rfl) boot_isinstance (pa_cons (pv 3) (pa_cons (pe_tup (pa_cons (pty (z_list T) boot_list) (pa_cons (pty (z_tuple T) boot_tuple) pa_nil))) pa_nil)))))) (fun _ _ _ _ _ => (pc ih hr (pa_cons (pv 3) pa_nil)))) pa_nil))))))
    (pss_one (ps_ret (pv 1))))), ?_⟩
  refine ⟨_, rfl, ?_⟩
  refine seqA_of ha (Same.refl H) fun J wk => ?_
  refine for_it wk (fun i σ H' => Same H H' ∧ ∃ v2 v3, σ = [some (.ref a), some (.int ((cB (l.take i) : Nat) : Int)), v2, v3]) ⟨Same.refl H, none, none, rfl⟩ (fun i σ H' _ h => h.1) ?_ ?_
  · rintro i x σ H1 H2 hi ⟨s1, v2, v3, rfl⟩ ⟨rfl, hx1⟩
    obtain ⟨d, hd1, hd2⟩ := DpAll.getV hx hx1
    obtain ⟨st, hst, rfl⟩ := encB_get hd1
    have hm : st ∈ l := List.mem_of_getElem? hst
    have dm := dB_mem hm
    obtain ⟨sa, sxs, rfl, hsa, hsx⟩ := shape_of (Dp.keep s1 hd2)
    refine ⟨_, rfl, _, _, rfl, rfl, ?_⟩
    refine ⟨_, rfl, _, rfl, _, _, rfl, hsa, cut_not, fun p hp => ?_⟩
    rw [cut_tail]
    have s2 := smNew1 hp (.tup sxs)
    refine seqA_of (.inr (SqT.of upd_same)) (Same.refl _) fun J2 wk2 => ?_
    intro D nD
    have hl : sxs.length = st.flats.length + st.bodies.length := by
      rw [DpAll.len hsx, List.length_append, List.length_map]
    refine lc_opt wk2 (fun (c : Nat) y _ => y = .int (c : Nat)) (fun i => if i < st.flats.length then none else (st.bodies[i - st.flats.length]?).map cB) nD (small1000 (by have := form_five st; have := ShapeS.items hsx; omega)) (fun H' e => e) (fun _ _ _ _ h _ => h) (fun _ _ _ _ _ h _ => h) ?_ ?_
    · rintro j y H3 H4 N hj e ⟨rfl, hy⟩ hk hno
      obtain ⟨d, hd3, hd4⟩ := DpAll.getV hsx hy
      have hd5 := Dp.keep (s2.trans e) hd4
      refine ⟨rfl, ?_⟩
      refine ⟨_, rfl, (by show 2 ≤ sizeLine; decide), fun p2 hp2 => ?_⟩
      have s3 := smNew1 hp2 (.tup [.ty "list", .ty "tuple"])
      rcases item_at st _ hd3 with ⟨hf, hflat⟩ | ⟨hf, bd, hbm, hba, rfl⟩
      · obtain ⟨ty, ht, hk2⟩ := ty_flat (Dp.keep s3 hd5) hflat
        refine ⟨_, p2, _, ty, _, false, rfl, upd_same, .cons (.ty _) (.cons (.ty _) .nil), ht, hk2, _, rfl, ifF rfl ?_⟩
        exact hno (if_pos hf) _ s3
      · obtain ⟨ba, bxs, rfl, hb1, hb2⟩ := seqD_inv hd5
        obtain ⟨ty, ht, hk2⟩ := ty_seq hb1 s3
        refine ⟨_, p2, _, ty, _, true, rfl, upd_same, .cons (.ty _) (.cons (.ty _) .nil), ht, hk2, _, rfl, ifT rfl ?_⟩
        have := dS_mem hbm
        refine ⟨_, rfl, fl, bd, Dp.keep s3 hd5, by omega, fun H5 e5 => ?_⟩
        exact hk _ _ (cB bd) (by rw [if_neg hf, hba]; rfl) (s3.trans e5) rfl
    · intro H3 ys e hD hp'
      rw [hl, bodies_from] at hp'
      have hys := paired_eq hp'
      have hys2 : ys = ((st.bodies.map cB).map fun c : Nat => (c : Int)).map V.int := by rw [hys, List.map_map, List.map_map, List.map_map]; rfl
      refine ⟨D, _, rfl, SqL.of (by rw [hD, hys2]), ?_⟩
      refine ⟨_, _, rfl, rfl, ?_⟩
      refine ⟨s1.trans (s2.trans e), some (.ref sa), v3, ?_⟩
      have e1 : V.int (((cB (l.take i) : Nat) : Int) + 1 + ((st.bodies.map cB).map fun c : Nat => (c : Int)).sum) = V.int ((cB (l.take (i + 1)) : Nat) : Int) := by
        rw [cB_take hst, cS_eq, List.map_map]
        have := cBs_sum st.bodies
        have e2 : (st.bodies.map ((fun c : Nat => (c : Int)) ∘ cB)) = st.bodies.map fun b => ((cB b : Nat) : Int) := rfl
        rw [e2, this]
        exact congrArg V.int (by omega)
      rw [← e1]
      rfl
  · rintro σ H1 ⟨s1, v2, v3, rfl⟩
    refine ⟨_, rfl, ?_⟩
    rw [lx, List.take_length]
    exact q H1 s1
theorem c_law_count (T : Top w K mg) : ∀ n, Cal P w K mg base CX0 (n + 1) "_law_count" (spLSize K n)
  | 0 => cal_never (f_law_count T) (g_law_count T) (ps := ["_law_body_here"]) (fun _ _ _ _ _ _ us hl => match us, hl with | [_], _ => rfl) fun vs H Q E h => by
      match vs, h with
      | [b], h =>
      obtain ⟨fl, l, _, hn, _⟩ := h
      have := dB_one l
      omega
  | n + 1 => ok_law_count T (c_law_count T n)
/-! ### _law_deep -/
/-- the depths that stand in the list -/
def dRow (l : List Stm) : List Int := 0 :: l.flatMap fun s => s.bodies.map fun b => ((dB b : Nat) : Int)
theorem dRow_take {l : List Stm} {i : Nat} {s : Stm} (h : l[i]? = some s) : dRow (l.take (i + 1)) = dRow (l.take i) ++ s.bodies.map fun b => ((dB b : Nat) : Int) := by
  unfold dRow
  rw [take_more h, List.flatMap_append]
  simp
theorem dRow_le : ∀ {l : List Stm} {y : Int}, y ∈ dRow l → y + 1 ≤ ((dB l : Nat) : Int) := by
  intro l y hy
  rcases List.mem_cons.mp hy with rfl | hy
  · have := dB_one l
    omega
  · obtain ⟨s, hs, hy⟩ := List.mem_flatMap.mp hy
    obtain ⟨b, hb, rfl⟩ := List.mem_map.mp hy
    have := dB_mem hs
    have := dS_mem hb
    omega
theorem dS_bodies (s : Stm) : dS s = 0 ∨ ∃ b ∈ s.bodies, dS s = dB b := by
  have two : ∀ a b : List Stm, ∃ c ∈ [a, b], max (dB a) (dB b) = dB c := fun a b => by
    by_cases h : dB a ≤ dB b
    · exact ⟨b, by simp, by omega⟩
    · exact ⟨a, by simp, by omega⟩
  cases s with
  | ite v n a b => exact .inr (two a b)
  | same v n a b => exact .inr (two a b)
  | rep n a => exact .inr ⟨a, by simp [Stm.bodies], rfl⟩
  | _ => exact .inl rfl
theorem dRow_has : ∀ l : List Stm, (((dB l : Nat) : Int) - 1) ∈ dRow l
  | [] => List.mem_cons_self
  | s :: r => by
    have ih := dRow_has r
    have up : ∀ {y : Int}, y ∈ dRow r → y ∈ dRow (s :: r) := fun {y} h => by
      rcases List.mem_cons.mp h with rfl | h
      · exact List.mem_cons_self
      · refine List.mem_cons_of_mem _ ?_
        rw [List.flatMap_cons]
        exact List.mem_append_right _ h
    rw [dB]
    by_cases c : dB r ≤ dS s + 1
    · rcases dS_bodies s with e | ⟨b, hb, e⟩
      · have e2 : (((max (dS s + 1) (dB r) : Nat) : Int) - 1) = 0 := by have := dB_one r; omega
        rw [e2]
        exact List.mem_cons_self
      · have e2 : (((max (dS s + 1) (dB r) : Nat) : Int) - 1) = ((dB b : Nat) : Int) := by omega
        rw [e2]
        refine List.mem_cons_of_mem _ ?_
        rw [List.flatMap_cons]
        exact List.mem_append_left _ (List.mem_map.mpr ⟨b, hb, rfl⟩)
    · have e2 : (((max (dS s + 1) (dB r) : Nat) : Int) - 1) = ((dB r : Nat) : Int) - 1 := by omega
      rw [e2]
      exact up ih
theorem dRow_max {l : List Stm} {m : Int} (h1 : m ∈ dRow l) (h2 : ∀ y ∈ dRow l, y ≤ m) : 1 + m = ((dB l : Nat) : Int) := by
  have a := dRow_le h1
  have b := h2 _ (dRow_has l)
  omega
theorem bod2 (s : Stm) : s.bodies.length ≤ 2 := by cases s <;> simp [Stm.bodies]
theorem dRow_len : ∀ l : List Stm, (dRow l).length ≤ 1 + 2 * l.length
  | [] => by simp [dRow]
  | s :: r => by
    have ih := dRow_len r
    have b2 := bod2 s
    unfold dRow at ih ⊢
    rw [List.length_cons] at ih ⊢
    rw [List.flatMap_cons, List.length_append, List.length_map, List.length_cons]
    omega
def spDeep (K : PySem.W.Frag) (n : Nat) : Sp := fun vs H Q _ => match vs with
  | [b] => ∃ (fl : Bool) (l : List Stm), Dp K H b (seqD fl (encB fl l)) ∧ dB l ≤ n ∧ l.length ≤ 400 ∧ cB l ≤ 400 ∧ ∀ H', Same H H' → Q (.int (dB l : Nat)) H'
  | _ => False
theorem sc_law_deep : FnScope ["_law_body_here", "_law_found", "_law_one", "_law_part"] ["_law_body_here"] (defScope s_law_deep) := ⟨rfl, rfl, rfl, by decide +kernel, rfl, by decide +kernel, by decide +kernel⟩
theorem ok_law_deep (T : Top w K mg) {n : Nat} (ih : Cal P w K mg base CX0 (n + 1) "_law_deep" (spDeep K n)) : Cal P w K mg base CX0 (n + 2) "_law_deep" (spDeep K (n + 1)) := by
  refine cal_0 (f_law_deep T) (g_law_deep T) sc_law_deep (fun _ _ _ _ _ _ us hl => match us, hl with | [_], _ => rfl) (fun vs H Q E h => match vs, h with | [_], _ => rfl) (fun cdv A outer s H vs Q E hr h => ?_)
  match vs, h with
  | [b], h =>
  obtain ⟨fl, l, hb, hn, hl4, hc4, q⟩ := h
  obtain ⟨a, xs, rfl, ha, hx⟩ := seqD_inv hb
  have lx : xs.length = l.length := by rw [DpAll.len hx, encB_map, List.length_map]
  refine ⟨_, (pss_cons (ps_set (i := 1) sc_law_deep.nd rfl (Or.inl rfl) (pe_lst (pa_cons pe_int pa_nil)))
    (pss_cons (ps_for PassesOwn.never rfl (pi_seqA (pv 0)) (pg_name (i := 2) sc_law_deep.nd rfl (Or.inl rfl))
      (pss_one (ps_set (i := 1) sc_law_deep.nd rfl (Or.inl rfl) (pe_op op_cat (pv 1) (pe_lc (own := [("_law_part", 3)]) rfl sc_law_deep.nd (pi_seqA (pe_slice sl_tup (pv 2) (po_some pe_int) po_none)) (blkOk_by (own := [("_law_part", 3)]) (N := ["_law_body_here", "_law_found", "_law_one", "_law_part"]) (sc := defScope s_law_deep) (by decide +kernel)) (fun _ _ _ _ _ => (pg_name (i := 3) sc_law_deep.nd rfl (Or.inl rfl) (Or.inr rfl))) (fun _ _ _ _ _ => (pts_one (pt_val (pcb (z_isinstance T) (call_isiT' (K := K) rfl) boot_isinstance (pa_cons (pv 3) (pa_cons (pe_tup (pa_cons (pty (z_list T) boot_list) (pa_cons (pty (z_tuple T) boot_tuple) pa_nil))) pa_nil)))))) (fun _ _ _ _ _ => (pc ih hr (pa_cons (pv 3) pa_nil))))))))
    (pss_one (ps_ret (pe_op op_add pe_int (pcb (z_max T) (cr_max rfl) boot_max (pa_cons (pv 1) pa_nil))))))), ?_⟩
  refine ⟨(by show 1 ≤ sizeLine; decide), fun f0 nf0 => ?_⟩
  refine ⟨_, rfl, ?_⟩
  refine seqA_of ha (smNew1 nf0 _) fun J wk => ?_
  refine for_it wk (fun i σ H' => Same H H' ∧ ∃ f v2 v3, H' f = some (.lst ((dRow (l.take i)).map V.int)) ∧ σ = [some (.ref a), some (.ref f), v2, v3]) ⟨smNew1 nf0 _, f0, none, none, upd_same, rfl⟩ (fun i σ H' _ h => h.1) ?_ ?_
  · rintro i x σ H1 H2 hi ⟨s1, f, v2, v3, hf, rfl⟩ ⟨rfl, hx1⟩
    obtain ⟨d, hd1, hd2⟩ := DpAll.getV hx hx1
    obtain ⟨st, hst, rfl⟩ := encB_get hd1
    have hm : st ∈ l := List.mem_of_getElem? hst
    have dm := dB_mem hm
    have cm := cB_mem hm
    obtain ⟨sa, sxs, rfl, hsa, hsx⟩ := shape_of (Dp.keep s1 hd2)
    refine ⟨_, rfl, ?_⟩
    refine ⟨_, rfl, _, rfl, _, _, rfl, hsa, cut_not, fun p hp => ?_⟩
    rw [cut_tail]
    have s2 := smNew1 hp (.tup sxs)
    refine seqA_of (.inr (SqT.of upd_same)) (Same.refl _) fun J2 wk2 => ?_
    intro D nD
    have hl : sxs.length = st.flats.length + st.bodies.length := by
      rw [DpAll.len hsx, List.length_append, List.length_map]
    refine lc_opt wk2 (fun (c : Nat) y _ => y = .int (c : Nat)) (fun i => if i < st.flats.length then none else (st.bodies[i - st.flats.length]?).map dB) nD (small1000 (by have := form_five st; have := ShapeS.items hsx; omega)) (fun H' e => e) (fun _ _ _ _ h _ => h) (fun _ _ _ _ _ h _ => h) ?_ ?_
    · rintro j y H3 H4 N hj e ⟨rfl, hy⟩ hk hno
      obtain ⟨d, hd3, hd4⟩ := DpAll.getV hsx hy
      have hd5 := Dp.keep (s2.trans e) hd4
      refine ⟨rfl, ?_⟩
      refine ⟨_, rfl, (by show 2 ≤ sizeLine; decide), fun p2 hp2 => ?_⟩
      have s3 := smNew1 hp2 (.tup [.ty "list", .ty "tuple"])
      rcases item_at st _ hd3 with ⟨hf, hflat⟩ | ⟨hf, bd, hbm, hba, rfl⟩
      · obtain ⟨ty, ht, hk2⟩ := ty_flat (Dp.keep s3 hd5) hflat
        refine ⟨_, p2, _, ty, _, false, rfl, upd_same, .cons (.ty _) (.cons (.ty _) .nil), ht, hk2, _, rfl, ifF rfl ?_⟩
        exact hno (if_pos hf) _ s3
      · obtain ⟨ba, bxs, rfl, hb1, hb2⟩ := seqD_inv hd5
        obtain ⟨ty, ht, hk2⟩ := ty_seq hb1 s3
        refine ⟨_, p2, _, ty, _, true, rfl, upd_same, .cons (.ty _) (.cons (.ty _) .nil), ht, hk2, _, rfl, ifT rfl ?_⟩
        have := dS_mem hbm
        have := cS_mem hbm
        have := cB_len bd
        refine ⟨_, rfl, fl, bd, Dp.keep s3 hd5, by omega, by omega, by omega, fun H5 e5 => ?_⟩
        exact hk _ _ (dB bd) (by rw [if_neg hf, hba]; rfl) (s3.trans e5) rfl
    · intro H3 ys e hD hp'
      rw [hl, bodies_from] at hp'
      have hys := paired_eq hp'
      have hys2 : ys = (st.bodies.map fun b => ((dB b : Nat) : Int)).map V.int := by rw [hys, List.map_map, List.map_map]; rfl
      have s3 : Same H2 H3 := s2.trans e
      have ll := dRow_len (l.take i)
      have lt : (l.take i).length ≤ 400 := by rw [List.length_take]; omega
      have b2 := bod2 st
      refine ⟨f, D, _, _, rfl, rfl, s3 _ _ hf, hD, Nat.le_of_lt (small1000 (by rw [hys2, List.length_map, List.length_map, List.length_map]; omega)), fun p4 hp4 => ?_⟩
      refine ⟨s1.trans (s3.trans (smNew1 hp4 _)), p4, some (.ref sa), v3, ?_, rfl⟩
      rw [dRow_take hst, List.map_append, hys2, upd_same]
  · rintro σ H1 ⟨s1, f, v2, v3, hf, rfl⟩
    rw [lx, List.take_length] at hf
    refine ⟨_, rfl, f, dRow l, rfl, SqL.of hf, by simp [dRow], fun m m1 m2 => ?_⟩
    refine ⟨_, _, rfl, rfl, ?_⟩
    have e1 := dRow_max m1 m2
    show Q (.int (1 + m)) H1
    rw [e1]
    exact q H1 s1
theorem c_law_deep (T : Top w K mg) : ∀ n, Cal P w K mg base CX0 (n + 1) "_law_deep" (spDeep K n)
  | 0 => cal_never (f_law_deep T) (g_law_deep T) (ps := ["_law_body_here"]) (fun _ _ _ _ _ _ us hl => match us, hl with | [_], _ => rfl) fun vs H Q E h => by
      match vs, h with
      | [b], h =>
      obtain ⟨fl, l, _, hn, _⟩ := h
      have := dB_one l
      omega
  | n + 1 => ok_law_deep T (c_law_deep T n)
end
end RM

set_option Elab.async false
set_option linter.all false
set_option maxRecDepth 100000
set_option maxHeartbeats 2000000
namespace RM
open PySem PySem.Spec PyProof.Rows L2
section
variable {P : Program} {w : World} {K : PySem.W.Frag} {mg : Str → Option Value} {base : Heap}
/-! ### items of any kind -/
/-- is it a good item by its sign? -/
def goodI (c : Nat) (d : PyData) : Bool :=
  if c = 107 then (match d with | .str z => isWord z | _ => false)
  else if c = 118 then (match d with | .int n => isValue n | _ => false)
  else if c = 116 then (match d with | .int n => decide (0 ≤ n) && decide (n ≤ 3) | _ => false)
  else (match d with | .list _ => true | .tuple _ => true | _ => false)
/-- no dict; a text is short -/
def smallD : PyData → Bool
  | .str z => decide (z.length ≤ 1000)
  | .dict _ => false
  | _ => true
def spItemG (K : PySem.W.Frag) : Sp := fun vs H Q _ => match vs with
  | [x, f] => ∃ c d, f = .str ⟨#[c]⟩ ∧ (c = 107 ∨ c = 118 ∨ c = 116 ∨ c = 98) ∧ Dp K H x d ∧ smallD d = true ∧ ∀ H', Same H H' → Q (.bl (goodI c d)) H'
  | _ => False
theorem wordG {K : PySem.W.Frag} {H : Hp} {x : V} {d : PyData} {Q : VK} {E : XK} (h : Dp K H x d) (hs : smallD d = true) (q : Q (.bl (goodI 107 d)) H) : spIsWordG K [x] H Q E := by
  cases h with
  | str z => exact .inl ⟨z, rfl, Nat.le_of_lt (small1000 (by have := of_decide_eq_true hs; omega)), q⟩
  | non => exact .inr ⟨_, .non, rfl, q⟩
  | int z => exact .inr ⟨_, .int z, rfl, q⟩
  | bl z => exact .inr ⟨_, .bl z, rfl, q⟩
  | lst a b => exact .inr ⟨_, .lst a b, rfl, q⟩
  | tup a b => exact .inr ⟨_, .tup a b, rfl, q⟩
theorem valueG {K : PySem.W.Frag} {H : Hp} {x : V} {d : PyData} {Q : VK} {E : XK} (h : Dp K H x d) (hs : smallD d = true) (q : Q (.bl (goodI 118 d)) H) : spIsValueG K [x] H Q E := by
  cases h with
  | int z => exact .inl ⟨z, rfl, q⟩
  | non => exact .inr ⟨_, .non, rfl, q⟩
  | str z => exact .inr ⟨_, .str z, rfl, q⟩
  | bl z => exact .inr ⟨_, .bl z, rfl, q⟩
  | lst a b => exact .inr ⟨_, .lst a b, rfl, q⟩
  | tup a b => exact .inr ⟨_, .tup a b, rfl, q⟩
/-- isinstance(x, (list, tuple)) of any data -/
theorem ty_any {K : PySem.W.Frag} {H : Hp} {x : V} {d : PyData} (h : Dp K H x d) : ∃ ty, TyX K H x ty ∧ PySem.W.kitAny K ty [.type "list", .type "tuple"] = some (goodI 98 d) := by
  have no : ∀ {a : String}, kitB a "list" = some false → kitB a "tuple" = some false → PySem.W.kitAny K (.type a) [.type "list", .type "tuple"] = some false := fun h1 h2 =>
    kitAny_cons (b := false) (kit_ty h1) (fun _ => kitAny_cons (b := false) (kit_ty h2) (fun _ => rfl) (fun z => by cases z)) (fun z => by cases z)
  cases h with
  | non => exact ⟨_, .base .non, no (by decide +kernel) (by decide +kernel)⟩
  | bl z => exact ⟨_, .base (.bl z), no (by decide +kernel) (by decide +kernel)⟩
  | int z => exact ⟨_, .base (.int z), no (by decide +kernel) (by decide +kernel)⟩
  | str z => exact ⟨_, .base (.str z), no (by decide +kernel) (by decide +kernel)⟩
  | lst h1 _ => exact ⟨_, tyL h1, kitAny_cons (b := true) (kit_ty (by decide +kernel)) (fun z => by cases z) (fun _ => rfl)⟩
  | tup h1 _ => exact ⟨_, tyT h1, kitAny_cons (b := false) (kit_ty (by decide +kernel)) (fun _ => kitAny_cons (b := true) (kit_ty (by decide +kernel)) (fun z => by cases z) (fun _ => rfl)) (fun z => by cases z)⟩
theorem cg_is_item (T : Top w K mg) : Cal P w K mg base CX0 2 "is_item" (spItemG K) := by
  refine cal_0 (f_is_item T) (g_is_item T) sc_is_item (fun _ _ _ _ _ _ us hl => match us, hl with | [_, _], _ => rfl) (fun vs H Q E h => match vs, h with | [_, _], _ => rfl) (fun cdv A outer s H vs Q E hr h => ?_)
  match vs, h with
  | [x, f], h =>
  obtain ⟨c, d, rfl, hc, hx, hs, q⟩ := h
  refine ⟨_, (pss_cons (ps_if (pt_cmpR op_eq (pv 1) pe_str (nomark _))
      (pss_one (ps_ret (pc (cg_is_word T) hr (pa_cons (pv 0) pa_nil))))
      pss_nil)
    (pss_cons (ps_if (pt_cmpR op_eq (pv 1) pe_str (nomark _))
      (pss_one (ps_ret (pc (cg_is_value T) hr (pa_cons (pv 0) pa_nil))))
      pss_nil)
    (pss_cons (ps_if (pt_cmpR op_eq (pv 1) pe_str (nomark _))
      (pss_one (ps_ret (pe_and (pc (cg_is_value T) hr (pa_cons (pv 0) pa_nil)) (pe_one (pe_chain op_le op_le pe_int (pv 0) pe_int)))))
      pss_nil)
    (pss_one (ps_ret (pcb (z_isinstance T) call_isiT boot_isinstance (pa_cons (pv 0) (pa_cons (pe_tup (pa_cons (pty (z_list T) boot_list) (pa_cons (pty (z_tuple T) boot_tuple) pa_nil))) pa_nil)))))))), ?_⟩
  have q0 := q H (Same.refl H)
  rcases hc with rfl | rfl | rfl | rfl
  · refine ⟨_, rfl, rfl, _, rfl, ifT (by decide +kernel) ?_⟩
    exact ⟨_, rfl, wordG hx hs q0⟩
  · refine ⟨_, rfl, rfl, _, rfl, ifF (by decide +kernel) ?_⟩
    refine ⟨_, rfl, rfl, _, rfl, ifT (by decide +kernel) ?_⟩
    exact ⟨_, rfl, valueG hx hs q0⟩
  · refine ⟨_, rfl, rfl, _, rfl, ifF (by decide +kernel) ?_⟩
    refine ⟨_, rfl, rfl, _, rfl, ifF (by decide +kernel) ?_⟩
    refine ⟨_, rfl, rfl, _, rfl, ifT (by decide +kernel) ?_⟩
    refine ⟨_, rfl, valueG hx hs ⟨_, rfl, ?_⟩⟩
    by_cases hi : ∃ n, d = .int n
    case neg =>
      have e : goodI 118 d = false := by
        cases d <;> first | rfl | exact absurd ⟨_, rfl⟩ hi
      have e2 : goodI 116 d = false := by
        cases d <;> first | rfl | exact absurd ⟨_, rfl⟩ hi
      rw [e]
      rw [e2] at q0
      exact ifF rfl q0
    obtain ⟨n, rfl⟩ := hi
    obtain rfl := Dp.int_inv hx
    by_cases hv : isValue n = true
    case neg =>
      have e : goodI 118 (.int n) = false := by
        show isValue n = false
        simpa using hv
      have e2 : goodI 116 (.int n) = false := by
        show (decide (0 ≤ n) && decide (n ≤ 3)) = false
        cases z : (decide (0 ≤ n) && decide (n ≤ 3)) with
        | false => rfl
        | true => exact absurd (isValue_rep z) hv
      rw [e]
      rw [e2] at q0
      exact ifF rfl q0
    refine ifT hv ?_
    refine ⟨_, rfl, _, _, rfl, rfl, _, rfl, ?_⟩
    have e2 : goodI 116 (.int n) = (decide (0 ≤ n) && decide (n ≤ 3)) := rfl
    rw [e2] at q0
    by_cases h0 : 0 ≤ n
    · rw [decide_eq_true h0] at q0 ⊢
      exact ifT rfl ⟨_, _, rfl, rfl, q0⟩
    · rw [decide_eq_false h0] at q0 ⊢
      exact ifF rfl q0
  · refine ⟨_, rfl, rfl, _, rfl, ifF (by decide +kernel) ?_⟩
    refine ⟨_, rfl, rfl, _, rfl, ifF (by decide +kernel) ?_⟩
    refine ⟨_, rfl, rfl, _, rfl, ifF (by decide +kernel) ?_⟩
    refine ⟨_, rfl, (by show 2 ≤ sizeLine; decide), fun p hp => ?_⟩
    have s1 : Same H (upd H p (.tup [.ty "list", .ty "tuple"])) := smNew1 hp _
    obtain ⟨ty, h1, h2⟩ := ty_any (Dp.keep s1 hx)
    exact ⟨_, p, _, _, [.type "list", .type "tuple"], _, rfl, upd_same, .cons (.ty _) (.cons (.ty _) .nil), h1, h2, q _ s1⟩
/-! ### statements of any kind -/
/-- the items of a tuple with the word of s -/
def goodT (s : Stm) (ds : List PyData) : Bool := decide (ds.length = s.signs.length) && (List.zipWith goodI s.signs ds).all id
/-- no tuple, an empty one, or one with a word that is none -/
inductive Odd : PyData → Prop where
  | non : Odd .none
  | bl (b : Bool) : Odd (.bool b)
  | int (n : Int) : Odd (.int n)
  | str (z : Str) : Odd (.str z)
  | lst (l : List PyData) : Odd (.list l)
  | nil : Odd (.tuple [])
  | loop (ds : List PyData) : Odd (.tuple (.str "loop" :: ds))
def smallsD (ds : List PyData) : Prop := ∀ d ∈ ds, smallD d = true
def spStmG (K : PySem.W.Frag) : Sp := fun vs H Q _ => match vs with
  | [x] => (∃ (s : Stm) (ds : List PyData), Dp K H x (.tuple (.str s.word :: ds)) ∧ smallsD ds ∧ ds.length ≤ 1000 ∧ ∀ H', Same H H' → Q (.bl (goodT s ds)) H') ∨ ∃ d, Dp K H x d ∧ Odd d ∧ Q (.bl false) H
  | _ => False
theorem sign_one (s : Stm) {i c : Nat} (h : s.signs[i]? = some c) : c = 107 ∨ c = 118 ∨ c = 116 ∨ c = 98 := by
  have key : ∀ c ∈ s.signs, c = 107 ∨ c = 118 ∨ c = 116 ∨ c = 98 := by cases s <;> (intro c hc; simp [Stm.signs] at hc <;> try omega)
  exact key c (List.mem_of_getElem? h)
theorem signs_size (s : Stm) : s.form.cps.size = s.signs.length := by rw [← signs_eq]; rfl
theorem paired_bl : ∀ {ys : List V} {bs : List Bool}, Paired (fun y b => y = V.bl b) ys bs → ys = bs.map V.bl
  | _, _, .nil => rfl
  | _, _, .cons h t => by rw [h, paired_bl t]; rfl
theorem not_loop (T : Top w K mg) : PySem.W.nsIn K (He.ga K "FORMS") "loop" = some none := He.eqO_ok (no_loop T)
theorem cg_is_statement (T : Top w K mg) : Cal P w K mg base CX0 3 "is_statement" (spStmG K) := by
  refine cal_0 (f_is_statement T) (g_is_statement T) sc_is_statement (fun _ _ _ _ _ _ us hl => match us, hl with | [_], _ => rfl) (fun vs H Q E h => match vs, h with | [_], _ => rfl) (fun cdv A outer s H vs Q E hr h => ?_)
  match vs, h with
  | [x], h =>
  obtain ⟨es0, m0, D, _⟩ := forms T .wait
  rcases h with ⟨s, ds, hd, hs, hl, q⟩ | ⟨d, hd, ho, q⟩
  case inr =>
    refine ⟨_, (pss_cons (ps_if (PW.pt (pw_or (pt_not (pt_val (pcb (z_isinstance T) call_isi boot_isinstance (pa_cons (pv 0) (pa_cons (pty (z_tuple T) boot_tuple) pa_nil))))) (pw_or (pt_not (pt_truth (pv 0) (by intro _; rfl))) (pw_or (pt_not (pt_val (pcb (z_isinstance T) call_isi boot_isinstance (pa_cons (pe_ix ix_tup (pv 0) pe_int (fun _ _ => rfl)) (pa_cons (pty (z_str T) boot_str) pa_nil))))) (pw_or1 (pt_cmpR (op_notIn_kd D) (pe_ix ix_tup (pv 0) pe_int (fun _ _ => rfl)) (pglR (g_FORMS T)) rfl))))))
      (pss_one (ps_ret pe_bl))
      pss_nil)
    (pss_cons (ps_set (i := 1) sc_is_statement.nd rfl (Or.inl rfl) (pe_ix ix_kdict (pglR (g_FORMS T)) (pe_ix ix_tup (pv 0) pe_int (fun _ _ => rfl)) (fun _ _ => rfl)))
    (pss_cons (ps_if (pt_cmpR op_ne (pcb (z_len T) call_len_seq boot_len (pa_cons (pv 0) pa_nil)) (pe_op op_add (pcb (z_len T) call_len_str boot_len (pa_cons (pv 1) pa_nil)) pe_int) (nomark _))
      (pss_one (ps_ret pe_bl))
      pss_nil)
    (pss_one (ps_ret (pcb (z_all T) (cr_all rfl) boot_all (pa_cons (pe_lc (own := [("item", 2), ("sign", 3)]) rfl sc_is_statement.nd (pi_zipTS (by rfl) (z_zip T) (pa_cons (pe_slice sl_tup (pv 0) (po_some pe_int) po_none) (pa_cons (pv 1) pa_nil))) (blkOk_by (own := [("item", 2), ("sign", 3)]) (N := ["value", "form", "item", "sign"]) (sc := defScope s_is_statement) (by decide +kernel)) (fun _ _ _ _ _ => (pg_tup' (n := 2) (K := K) rfl rfl (pgs_cons (pg_name (i := 2) sc_is_statement.nd rfl (Or.inl rfl) (Or.inr rfl)) (pgs_cons (pg_name (i := 3) sc_is_statement.nd rfl (Or.inl rfl) (Or.inr rfl)) pgs_nil)) rfl rfl)) (fun _ _ _ _ _ => pts_nil) (fun _ _ _ _ _ => (pc (cg_is_item T) hr (pa_cons (pv 2) (pa_cons (pv 3) pa_nil))))) pa_nil))))))), ?_⟩
    cases ho with
    | non => cases hd; exact ⟨_, rfl, _, _, _, _, false, rfl, .ty _, .base .non, kit_ty (by decide +kernel), _, rfl, iteT q⟩
    | bl b => cases hd; exact ⟨_, rfl, _, _, _, _, false, rfl, .ty _, .base (.bl b), kit_ty (by decide +kernel), _, rfl, iteT q⟩
    | int b => cases hd; exact ⟨_, rfl, _, _, _, _, false, rfl, .ty _, .base (.int b), kit_ty (by decide +kernel), _, rfl, iteT q⟩
    | str b => cases hd; exact ⟨_, rfl, _, _, _, _, false, rfl, .ty _, .base (.str b), kit_ty (by decide +kernel), _, rfl, iteT q⟩
    | lst b =>
      obtain ⟨a, xs, rfl, h1, _⟩ := Dp.lst_inv hd
      exact ⟨_, rfl, _, _, _, _, false, rfl, .ty _, tyL h1, kit_ty (by decide +kernel), _, rfl, iteT q⟩
    | nil =>
      obtain ⟨a, xs, rfl, ha, hx⟩ := Dp.tup_inv hd
      obtain rfl := DpAll.nil_inv hx
      refine ⟨_, rfl, _, _, _, _, true, rfl, .ty _, tyT ha, kit_ty (by decide +kernel), _, rfl, iteF ?_⟩
      exact ⟨_, rfl, false, Or.inr (Or.inl ⟨_, ha, rfl⟩), iteT q⟩
    | loop ds =>
      obtain ⟨a, xs, rfl, ha, hx⟩ := Dp.tup_inv hd
      obtain ⟨v, r, rfl, h1, h2⟩ := DpAll.cons_inv hx
      obtain rfl := Dp.str_inv h1
      refine ⟨_, rfl, _, _, _, _, true, rfl, .ty _, tyT ha, kit_ty (by decide +kernel), _, rfl, iteF ?_⟩
      refine ⟨_, rfl, true, Or.inr (Or.inl ⟨_, ha, rfl⟩), iteF ?_⟩
      refine ⟨_, rfl, _, _, _, _, rfl, rfl, ha, at0, ?_⟩
      refine ⟨_, _, _, _, true, rfl, .ty _, .base (.str _), kit_ty (by decide +kernel), _, rfl, iteF ?_⟩
      exact ⟨_, rfl, _, _, _, _, rfl, rfl, ha, at0, _, _, rfl, rfl, not_loop T, _, rfl, iteT q⟩
  obtain ⟨es, m, D, u, hu, ru⟩ := forms T s
  obtain ⟨a, xs0, rfl, ha, hx0⟩ := Dp.tup_inv hd
  obtain ⟨v, xs, rfl, h1, hx⟩ := DpAll.cons_inv hx0
  obtain rfl := Dp.str_inv h1
  refine ⟨_, (pss_cons (ps_if (PW.pt (pw_or (pt_not (pt_val (pcb (z_isinstance T) call_isi boot_isinstance (pa_cons (pv 0) (pa_cons (pty (z_tuple T) boot_tuple) pa_nil))))) (pw_or (pt_not (pt_truth (pv 0) (by intro _; rfl))) (pw_or (pt_not (pt_val (pcb (z_isinstance T) call_isi boot_isinstance (pa_cons (pe_ix ix_tup (pv 0) pe_int (fun _ _ => rfl)) (pa_cons (pty (z_str T) boot_str) pa_nil))))) (pw_or1 (pt_cmpR (op_notIn_kd D) (pe_ix ix_tup (pv 0) pe_int (fun _ _ => rfl)) (pglR (g_FORMS T)) rfl))))))
      (pss_one (ps_ret pe_bl))
      pss_nil)
    (pss_cons (ps_set (i := 1) sc_is_statement.nd rfl (Or.inl rfl) (pe_ix ix_kdict (pglR (g_FORMS T)) (pe_ix ix_tup (pv 0) pe_int (fun _ _ => rfl)) (fun _ _ => rfl)))
    (pss_cons (ps_if (pt_cmpR op_ne (pcb (z_len T) call_len_seq boot_len (pa_cons (pv 0) pa_nil)) (pe_op op_add (pcb (z_len T) call_len_str boot_len (pa_cons (pv 1) pa_nil)) pe_int) (nomark _))
      (pss_one (ps_ret pe_bl))
      pss_nil)
    (pss_one (ps_ret (pcb (z_all T) (cr_all rfl) boot_all (pa_cons (pe_lc (own := [("item", 2), ("sign", 3)]) rfl sc_is_statement.nd (pi_zipTS (by rfl) (z_zip T) (pa_cons (pe_slice sl_tup (pv 0) (po_some pe_int) po_none) (pa_cons (pv 1) pa_nil))) (blkOk_by (own := [("item", 2), ("sign", 3)]) (N := ["value", "form", "item", "sign"]) (sc := defScope s_is_statement) (by decide +kernel)) (fun _ _ _ _ _ => (pg_tup' (n := 2) (K := K) rfl rfl (pgs_cons (pg_name (i := 2) sc_is_statement.nd rfl (Or.inl rfl) (Or.inr rfl)) (pgs_cons (pg_name (i := 3) sc_is_statement.nd rfl (Or.inl rfl) (Or.inr rfl)) pgs_nil)) rfl rfl)) (fun _ _ _ _ _ => pts_nil) (fun _ _ _ _ _ => (pc (cg_is_item T) hr (pa_cons (pv 2) (pa_cons (pv 3) pa_nil))))) pa_nil))))))), ?_⟩
  refine ⟨_, rfl, _, _, _, _, true, rfl, .ty _, tyT ha, kit_ty (by decide +kernel), _, rfl, iteF ?_⟩
  refine ⟨_, rfl, true, Or.inr (Or.inl ⟨_, ha, rfl⟩), iteF ?_⟩
  refine ⟨_, rfl, _, _, _, _, rfl, rfl, ha, at0, ?_⟩
  refine ⟨_, _, _, _, true, rfl, .ty _, .base (.str _), kit_ty (by decide +kernel), _, rfl, iteF ?_⟩
  refine ⟨_, rfl, _, _, _, _, rfl, rfl, ha, at0, _, _, rfl, rfl, hu, _, rfl, iteF ?_⟩
  refine ⟨_, rfl, _, _, _, _, rfl, rfl, ha, at0, _, _, _, rfl, rfl, ⟨es, m, u, D.1, D.2, hu, ru⟩, ?_⟩
  have lx := DpAll.len hx
  have sz := signs_size s
  refine ⟨_, rfl, _, _, rfl, .inr ha, _, rfl, _, rfl, (word_sz s).2, _, _, rfl, rfl, rfl, _, rfl, ?_⟩
  by_cases c : ds.length = s.signs.length
  case neg =>
    refine ifT ?_ ?_
    · rw [Bool.not_eq_true', decide_eq_false_iff_not]
      intro e
      have e2 : (((V.str s.word :: xs).length : Nat) : Int) = (s.form.length : Int) + 1 := V.int.inj e
      rw [List.length_cons] at e2
      have : s.form.length = s.form.cps.size := rfl
      omega
    · have q0 := q H (Same.refl H)
      unfold goodT at q0
      rw [decide_eq_false c] at q0
      exact q0
  refine ifF ?_ ?_
  · rw [Bool.not_eq_false', decide_eq_true_eq]
    show V.int (((V.str s.word :: xs).length : Nat) : Int) = V.int ((s.form.length : Int) + 1)
    rw [List.length_cons, lx, c, ← sz]
    rfl
  refine ⟨_, rfl, _, rfl, _, _, rfl, ha, cut_not, fun p hp => ?_⟩
  rw [cut_tail]
  have s1 : Same H (upd H p (.tup xs)) := smNew1 hp _
  refine ⟨_, rfl, _, xs, _, rfl, SqT.of upd_same, fun D nD => ?_⟩
  have hl' : xs.length = s.form.cps.size := by omega
  refine lc_opt (walk_zipTS hl') (fun (b : Bool) y _ => y = .bl b) (fun i => (List.zipWith goodI s.signs ds)[i]?) nD (small1000 (by omega)) (fun H' e => smT e (SqT.of upd_same)) (fun _ _ _ _ h _ => h) (fun _ _ _ _ _ h _ => h) ?_ ?_
  · rintro i x H1 H2 N hi e ⟨t, y, z, rfl, ht, rfl, hy, hz⟩ hk _
    obtain ⟨c1, hc1, rfl⟩ := Option.map_eq_some_iff.mp hz
    have hsg := sign_at hc1
    obtain ⟨d, hd1, hd2⟩ := DpAll.getV hx hy
    refine ⟨t, _, rfl, SqT.of upd_same, rfl, _, _, rfl, _, _, rfl, rfl, rfl, ?_⟩
    refine yesI ?_
    have sx : Same H (upd H1 t (.tup [y, .str ⟨#[c1]⟩])) := smNew (fun b o q => e b o (s1 b o q)) ht _
    refine ⟨_, rfl, _, rfl, c1, d, rfl, sign_one s hsg, Dp.keep sx hd2, hs d (List.mem_of_getElem? hd1), fun H3 s3 => ?_⟩
    refine hk _ _ (goodI c1 d) ?_ (fun b o q => s3 b o (smNew1 ht _ b o q)) rfl
    rw [List.getElem?_zipWith, hsg, hd1]
  · intro H' ys e hD hp'
    have ez : xs.length = (List.zipWith goodI s.signs ds).length := by rw [List.length_zipWith]; omega
    rw [ez, some_range] at hp'
    rw [paired_bl hp'] at hD
    have e3 : goodT s ds = (List.zipWith goodI s.signs ds).all id := by unfold goodT; rw [decide_eq_true c]; rfl
    have q1 := q H' fun b o z => e _ _ (s1 b o z)
    rw [e3] at q1
    exact ⟨_, _, rfl, SqL.of hD, q1⟩
end
end RM

set_option Elab.async false
set_option linter.all false
set_option maxRecDepth 100000
set_option maxHeartbeats 2000000
namespace RM
open PySem PySem.Spec PyProof.Rows L2
section
variable {P : Program} {w : World} {K : PySem.W.Frag} {mg : Str → Option Value} {base : Heap}
/-! ### the law's own look at items -/
def spWG (K : PySem.W.Frag) : Sp := fun vs H Q _ => match vs with
  | [x] => ∃ d, Dp K H x d ∧ smallD d = true ∧ ∀ H', Same H H' → Q (.bl (goodI 107 d)) H'
  | _ => False
theorem sc_law_word_good : FnScope ["_law_value", "_law_letter"] ["_law_value"] (defScope s_law_word_good) := ⟨rfl, rfl, rfl, by decide +kernel, rfl, by decide +kernel, by decide +kernel⟩
theorem c_law_word_good (T : Top w K mg) : Cal P w K mg base CX0 1 "_law_word_good" (spWG K) := by
  refine cal_0 (f_law_word_good T) (g_law_word_good T) sc_law_word_good (fun _ _ _ _ _ _ us hl => match us, hl with | [_], _ => rfl) (fun vs H Q E h => match vs, h with | [_], _ => rfl) (fun cdv A outer s H vs Q E hr h => ?_)
  match vs, h with
  | [x], h =>
  obtain ⟨d, hd, hs, q⟩ := h
  refine ⟨_, (pss_cons (ps_if (PW.pt (pw_or (pt_not (pt_val (pcb (z_isinstance T) call_isi boot_isinstance (pa_cons (pv 0) (pa_cons (pty (z_str T) boot_str) pa_nil))))) (pw_or1 (pt_not (pt_chain op_le op_le pe_int (pcb (z_len T) call_len_str boot_len (pa_cons (pv 0) pa_nil)) pe_int)))))
      (pss_one (ps_ret pe_bl))
      pss_nil)
    (pss_one (ps_ret (pcb (z_all T) (cr_all rfl) boot_all (pa_cons (pe_lc (own := [("_law_letter", 1)]) rfl sc_law_word_good.nd (pi_str (pv 0)) (blkOk_by (own := [("_law_letter", 1)]) (N := ["_law_value", "_law_letter"]) (sc := defScope s_law_word_good) (by decide +kernel)) (fun _ _ _ _ _ => (pg_name (i := 1) sc_law_word_good.nd rfl (Or.inl rfl) (Or.inr rfl))) (fun _ _ _ _ _ => pts_nil) (fun _ _ _ _ _ => (pe_cmpR op_in_sign (pv 1) pe_str rfl))) pa_nil))))), ?_⟩
  have q0 := q H (Same.refl H)
  cases hd with
  | non => exact ⟨_, rfl, _, _, _, _, false, rfl, .ty _, .base .non, kit_ty (by decide +kernel), _, rfl, iteT q0⟩
  | int z => exact ⟨_, rfl, _, _, _, _, false, rfl, .ty _, .base (.int z), kit_ty (by decide +kernel), _, rfl, iteT q0⟩
  | bl z => exact ⟨_, rfl, _, _, _, _, false, rfl, .ty _, .base (.bl z), kit_ty (by decide +kernel), _, rfl, iteT q0⟩
  | lst h1 _ => exact ⟨_, rfl, _, _, _, _, false, rfl, .ty _, tyL h1, kit_ty (by decide +kernel), _, rfl, iteT q0⟩
  | tup h1 _ => exact ⟨_, rfl, _, _, _, _, false, rfl, .ty _, tyT h1, kit_ty (by decide +kernel), _, rfl, iteT q0⟩
  | str z =>
    have hz : z.length ≤ 1000 := of_decide_eq_true hs
    refine ⟨_, rfl, _, _, _, _, true, rfl, .ty _, .base (.str z), kit_ty (by decide +kernel), _, rfl, iteF ?_⟩
    refine ⟨_, rfl, _, rfl, Nat.le_of_lt (small1000 (by omega)), _, _, rfl, rfl, _, rfl, ?_⟩
    have no : ∀ b : Bool, isWord z = b → ∀ H', Same H H' → Q (.bl b) H' := fun b e H' s' => by rw [← e]; exact q H' s'
    by_cases c1 : 1 ≤ (z.length : Int)
    case neg =>
      rw [decide_eq_false c1]
      exact iteF ⟨_, rfl, iteT (no false (by unfold isWord; rw [decide_eq_false (by omega)]; rfl) H (Same.refl H))⟩
    rw [decide_eq_true c1]
    refine iteT ?_
    refine ⟨_, _, rfl, rfl, _, rfl, ?_⟩
    by_cases c2 : (z.length : Int) ≤ 6
    case neg =>
      rw [decide_eq_false c2]
      exact iteT (no false (by unfold isWord; rw [decide_eq_false (by omega : ¬ z.length ≤ 6), Bool.and_false]; rfl) H (Same.refl H))
    rw [decide_eq_true c2]
    refine iteF ?_
    have e0 : isWord z = z.cps.toList.all isLet := by
      unfold isWord
      rw [decide_eq_true (by omega), decide_eq_true (by omega)]
      rfl
    refine ⟨_, rfl, _, rfl, ?_⟩
    intro D nD
    refine lc_opt walk_str (fun (b : Bool) y _ => y = .bl b) (fun i => (z.cps.toList.map isLet)[i]?) nD (small1000 (by show z.length ≤ 1000; omega)) (fun H' e => trivial) (fun _ _ _ _ h _ => h) (fun _ _ _ _ _ h _ => h) ?_ ?_
    · rintro i x H1 H2 N hi e ⟨rfl, c, hc, rfl⟩ hk _
      refine ⟨rfl, ?_⟩
      refine yesI ?_
      refine ⟨_, rfl, c, _, rfl, rfl, ?_⟩
      refine hk _ _ (isLet c) ?_ (Same.refl _) rfl
      have hc' : z.cps.toList[i]? = some c := by simpa using hc
      rw [List.getElem?_map, hc']
      rfl
    · intro H' ys e hD hp'
      have ez : z.cps.size = (z.cps.toList.map isLet).length := by rw [List.length_map]; rfl
      rw [ez, some_range] at hp'
      rw [paired_bl hp'] at hD
      refine ⟨_, _, rfl, SqL.of hD, no _ ?_ H' e⟩
      rw [e0, List.all_map]
      rfl
/-- a number within bounds -/
def valIn (lo hi : Int) : PyData → Bool
  | .int n => decide (lo ≤ n) && decide (n ≤ hi)
  | _ => false
def spVG (K : PySem.W.Frag) : Sp := fun vs H Q _ => match vs with
  | [x, y, z] => ∃ d lo hi, Dp K H x d ∧ smallD d = true ∧ y = .int lo ∧ z = .int hi ∧ Q (.bl (valIn lo hi d)) H
  | _ => False
theorem sc_law_value_good : FnScope ["_law_value", "_law_least", "_law_most"] ["_law_value", "_law_least", "_law_most"] (defScope s_law_value_good) := ⟨rfl, rfl, rfl, by decide +kernel, rfl, by decide +kernel, by decide +kernel⟩
theorem c_law_value_good (T : Top w K mg) : Cal P w K mg base CX0 1 "_law_value_good" (spVG K) := by
  refine cal_0 (f_law_value_good T) (g_law_value_good T) sc_law_value_good (fun _ _ _ _ _ _ us hl => match us, hl with | [_, _, _], _ => rfl) (fun vs H Q E h => match vs, h with | [_, _, _], _ => rfl) (fun cdv A outer s H vs Q E hr h => ?_)
  match vs, h with
  | [x, y, z], h =>
  obtain ⟨d, lo, hi, hd, hs, rfl, rfl, q⟩ := h
  refine ⟨_, (pss_one (ps_ret (pe_and (pcb (z_isinstance T) call_isi boot_isinstance (pa_cons (pv 0) (pa_cons (pty (z_int T) boot_int) pa_nil))) (pe_and (pe_not (pcb (z_isinstance T) call_isi boot_isinstance (pa_cons (pv 0) (pa_cons (pty (z_bool T) boot_bool) pa_nil)))) (pe_one (pe_chain op_le op_le (pv 1) (pv 0) (pv 2))))))), ?_⟩
  cases hd with
  | non => exact ⟨_, rfl, _, _, _, _, false, rfl, .ty _, .base .non, kit_ty (by decide +kernel), _, rfl, iteF q⟩
  | str z => exact ⟨_, rfl, _, _, _, _, false, rfl, .ty _, .base (.str z), kit_ty (by decide +kernel), _, rfl, iteF q⟩
  | lst h1 _ => exact ⟨_, rfl, _, _, _, _, false, rfl, .ty _, tyL h1, kit_ty (by decide +kernel), _, rfl, iteF q⟩
  | tup h1 _ => exact ⟨_, rfl, _, _, _, _, false, rfl, .ty _, tyT h1, kit_ty (by decide +kernel), _, rfl, iteF q⟩
  | bl b =>
    refine ⟨_, rfl, _, _, _, _, true, rfl, .ty _, .base (.bl b), kit_ty (by decide +kernel), _, rfl, iteT ?_⟩
    exact ⟨_, rfl, _, _, _, _, true, rfl, .ty _, .base (.bl b), kit_ty (by decide +kernel), _, rfl, _, rfl, iteF q⟩
  | int n =>
    refine ⟨_, rfl, _, _, _, _, true, rfl, .ty _, .base (.int n), kit_ty (by decide +kernel), _, rfl, iteT ?_⟩
    refine ⟨_, rfl, _, _, _, _, false, rfl, .ty _, .base (.int n), kit_ty (by decide +kernel), _, rfl, _, rfl, iteT ?_⟩
    refine ⟨_, rfl, _, rfl, _, _, rfl, rfl, _, rfl, ?_⟩
    have q2 : Q (.bl (decide (lo ≤ n) && decide (n ≤ hi))) H := q
    by_cases c : lo ≤ n
    · rw [decide_eq_true c] at q2 ⊢
      exact iteT ⟨_, rfl, _, _, rfl, rfl, q2⟩
    · rw [decide_eq_false c] at q2 ⊢
      exact iteF q2
/-- the law's own signs: w for k -/
def wSign (c : Nat) : Nat := if c = 107 then 119 else c
def spIG (K : PySem.W.Frag) : Sp := fun vs H Q _ => match vs with
  | [x, f] => ∃ c d, f = .str ⟨#[wSign c]⟩ ∧ (c = 107 ∨ c = 118 ∨ c = 116 ∨ c = 98) ∧ Dp K H x d ∧ smallD d = true ∧ ∀ H', Same H H' → Q (.bl (goodI c d)) H'
  | _ => False
theorem sc_law_item_good : FnScope ["_law_value", "_law_sign"] ["_law_value", "_law_sign"] (defScope s_law_item_good) := ⟨rfl, rfl, rfl, by decide +kernel, rfl, by decide +kernel, by decide +kernel⟩
theorem c_law_item_good (T : Top w K mg) : Cal P w K mg base CX0 2 "_law_item_good" (spIG K) := by
  refine cal_0 (f_law_item_good T) (g_law_item_good T) sc_law_item_good (fun _ _ _ _ _ _ us hl => match us, hl with | [_, _], _ => rfl) (fun vs H Q E h => match vs, h with | [_, _], _ => rfl) (fun cdv A outer s H vs Q E hr h => ?_)
  match vs, h with
  | [x, f], h =>
  obtain ⟨c, d, rfl, hc, hx, hs, q⟩ := h
  refine ⟨_, (pss_cons (ps_if (pt_cmpR op_eq (pv 1) pe_str (nomark _))
      (pss_one (ps_ret (pc (c_law_word_good T) hr (pa_cons (pv 0) pa_nil))))
      pss_nil)
    (pss_cons (ps_if (pt_cmpR op_eq (pv 1) pe_str (nomark _))
      (pss_one (ps_ret (pc (c_law_value_good T) hr (pa_cons (pv 0) (pa_cons (pe_un un_neg pe_int) (pa_cons pe_int pa_nil))))))
      pss_nil)
    (pss_cons (ps_if (pt_cmpR op_eq (pv 1) pe_str (nomark _))
      (pss_one (ps_ret (pc (c_law_value_good T) hr (pa_cons (pv 0) (pa_cons pe_int (pa_cons pe_int pa_nil))))))
      pss_nil)
    (pss_one (ps_ret (pcb (z_isinstance T) call_isiT boot_isinstance (pa_cons (pv 0) (pa_cons (pe_tup (pa_cons (pty (z_list T) boot_list) (pa_cons (pty (z_tuple T) boot_tuple) pa_nil))) pa_nil)))))))), ?_⟩
  have q0 := q H (Same.refl H)
  rcases hc with rfl | rfl | rfl | rfl
  · refine ⟨_, rfl, rfl, _, rfl, ifT (by decide +kernel) ?_⟩
    exact ⟨_, rfl, d, hx, hs, q⟩
  · refine ⟨_, rfl, rfl, _, rfl, ifF (by decide +kernel) ?_⟩
    refine ⟨_, rfl, rfl, _, rfl, ifT (by decide +kernel) ?_⟩
    refine ⟨_, rfl, _, rfl, d, -99, 99, hx, hs, rfl, rfl, ?_⟩
    have e : goodI 118 d = valIn (-99) 99 d := by cases d <;> rfl
    rw [← e]
    exact q0
  · refine ⟨_, rfl, rfl, _, rfl, ifF (by decide +kernel) ?_⟩
    refine ⟨_, rfl, rfl, _, rfl, ifF (by decide +kernel) ?_⟩
    refine ⟨_, rfl, rfl, _, rfl, ifT (by decide +kernel) ?_⟩
    refine ⟨_, rfl, d, 0, 3, hx, hs, rfl, rfl, ?_⟩
    have e : goodI 116 d = valIn 0 3 d := by cases d <;> rfl
    rw [← e]
    exact q0
  · refine ⟨_, rfl, rfl, _, rfl, ifF (by decide +kernel) ?_⟩
    refine ⟨_, rfl, rfl, _, rfl, ifF (by decide +kernel) ?_⟩
    refine ⟨_, rfl, rfl, _, rfl, ifF (by decide +kernel) ?_⟩
    refine ⟨_, rfl, (by show 2 ≤ sizeLine; decide), fun p hp => ?_⟩
    have s1 : Same H (upd H p (.tup [.ty "list", .ty "tuple"])) := smNew1 hp _
    obtain ⟨ty, h1, h2⟩ := ty_any (Dp.keep s1 hx)
    exact ⟨_, p, _, _, [.type "list", .type "tuple"], _, rfl, upd_same, .cons (.ty _) (.cons (.ty _) .nil), h1, h2, q _ s1⟩
def formW : Stm → Str
  | .read .. => "ww" | .set .. => "wv" | .copy .. => "ww" | .print .. => "w" | .say .. => "v" | .wait => ""
  | .ite .. => "wvbb" | .same .. => "wwbb" | .rep .. => "tb" | .stop => ""
def spForm : Sp := fun vs H Q _ => match vs with
  | [x] => (∃ s : Stm, x = .str s.word ∧ ∀ H', Same H H' → Q (.str (formW s)) H') ∨ (x = .str "loop" ∧ ∀ H', Same H H' → Q (.str "no") H')
  | _ => False
theorem sc_law_form : FnScope ["_law_word"] ["_law_word"] (defScope s_law_form) := ⟨rfl, rfl, rfl, by decide +kernel, rfl, by decide +kernel, by decide +kernel⟩
theorem c_law_form (T : Top w K mg) : Cal P w K mg base CX0 1 "_law_form" spForm := by
  refine cal_0 (f_law_form T) (g_law_form T) sc_law_form (fun _ _ _ _ _ _ us hl => match us, hl with | [_], _ => rfl) (fun vs H Q E h => match vs, h with | [_], _ => rfl) (fun cdv A outer s H vs Q E hr h => ?_)
  match vs, h with
  | [x], h =>
  refine ⟨_, (pss_cons (ps_if (pt_cmpR op_in_seq (pv 0) (pe_tup (pa_cons pe_str (pa_cons pe_str pa_nil))) rfl)
      (pss_one (ps_ret pe_str))
      pss_nil)
    (pss_cons (ps_if (pt_cmpR op_eq (pv 0) pe_str (nomark _))
      (pss_one (ps_ret pe_str))
      pss_nil)
    (pss_cons (ps_if (pt_cmpR op_eq (pv 0) pe_str (nomark _))
      (pss_one (ps_ret pe_str))
      pss_nil)
    (pss_cons (ps_if (pt_cmpR op_eq (pv 0) pe_str (nomark _))
      (pss_one (ps_ret pe_str))
      pss_nil)
    (pss_cons (ps_if (pt_cmpR op_in_seq (pv 0) (pe_tup (pa_cons pe_str (pa_cons pe_str pa_nil))) rfl)
      (pss_one (ps_ret pe_str))
      pss_nil)
    (pss_cons (ps_if (pt_cmpR op_eq (pv 0) pe_str (nomark _))
      (pss_one (ps_ret pe_str))
      pss_nil)
    (pss_cons (ps_if (pt_cmpR op_eq (pv 0) pe_str (nomark _))
      (pss_one (ps_ret pe_str))
      pss_nil)
    (pss_cons (ps_if (pt_cmpR op_eq (pv 0) pe_str (nomark _))
      (pss_one (ps_ret pe_str))
      pss_nil)
    (pss_one (ps_ret pe_str)))))))))), ?_⟩
  rcases h with ⟨s, rfl, q⟩ | ⟨rfl, q⟩
  · cases s with
    | read =>
      refine ⟨_, rfl, (by show 2 ≤ sizeLine; decide), fun p1 hp1 => ?_⟩
      refine ⟨p1, _, rfl, .inr (SqT.of upd_same), rfl, rfl, _, rfl, ifT (by show inV (V.str ("read" : Str)) [V.str "read", V.str "copy"] = true; decide +kernel) ?_⟩
      exact q _ (smNew (Same.refl H) hp1 _)
    | set =>
      refine ⟨_, rfl, (by show 2 ≤ sizeLine; decide), fun p1 hp1 => ?_⟩
      refine ⟨p1, _, rfl, .inr (SqT.of upd_same), rfl, rfl, _, rfl, ifF (by show inV (V.str ("set" : Str)) [V.str "read", V.str "copy"] = false; decide +kernel) ?_⟩
      refine ⟨_, rfl, rfl, _, rfl, ifT (by show decide (V.str ("set" : Str) = V.str "set") = true; decide +kernel) ?_⟩
      exact q _ (smNew (Same.refl H) hp1 _)
    | copy =>
      refine ⟨_, rfl, (by show 2 ≤ sizeLine; decide), fun p1 hp1 => ?_⟩
      refine ⟨p1, _, rfl, .inr (SqT.of upd_same), rfl, rfl, _, rfl, ifT (by show inV (V.str ("copy" : Str)) [V.str "read", V.str "copy"] = true; decide +kernel) ?_⟩
      exact q _ (smNew (Same.refl H) hp1 _)
    | print =>
      refine ⟨_, rfl, (by show 2 ≤ sizeLine; decide), fun p1 hp1 => ?_⟩
      refine ⟨p1, _, rfl, .inr (SqT.of upd_same), rfl, rfl, _, rfl, ifF (by show inV (V.str ("print" : Str)) [V.str "read", V.str "copy"] = false; decide +kernel) ?_⟩
      refine ⟨_, rfl, rfl, _, rfl, ifF (by show decide (V.str ("print" : Str) = V.str "set") = false; decide +kernel) ?_⟩
      refine ⟨_, rfl, rfl, _, rfl, ifT (by show decide (V.str ("print" : Str) = V.str "print") = true; decide +kernel) ?_⟩
      exact q _ (smNew (Same.refl H) hp1 _)
    | say =>
      refine ⟨_, rfl, (by show 2 ≤ sizeLine; decide), fun p1 hp1 => ?_⟩
      refine ⟨p1, _, rfl, .inr (SqT.of upd_same), rfl, rfl, _, rfl, ifF (by show inV (V.str ("say" : Str)) [V.str "read", V.str "copy"] = false; decide +kernel) ?_⟩
      refine ⟨_, rfl, rfl, _, rfl, ifF (by show decide (V.str ("say" : Str) = V.str "set") = false; decide +kernel) ?_⟩
      refine ⟨_, rfl, rfl, _, rfl, ifF (by show decide (V.str ("say" : Str) = V.str "print") = false; decide +kernel) ?_⟩
      refine ⟨_, rfl, rfl, _, rfl, ifT (by show decide (V.str ("say" : Str) = V.str "say") = true; decide +kernel) ?_⟩
      exact q _ (smNew (Same.refl H) hp1 _)
    | wait =>
      refine ⟨_, rfl, (by show 2 ≤ sizeLine; decide), fun p1 hp1 => ?_⟩
      refine ⟨p1, _, rfl, .inr (SqT.of upd_same), rfl, rfl, _, rfl, ifF (by show inV (V.str ("wait" : Str)) [V.str "read", V.str "copy"] = false; decide +kernel) ?_⟩
      refine ⟨_, rfl, rfl, _, rfl, ifF (by show decide (V.str ("wait" : Str) = V.str "set") = false; decide +kernel) ?_⟩
      refine ⟨_, rfl, rfl, _, rfl, ifF (by show decide (V.str ("wait" : Str) = V.str "print") = false; decide +kernel) ?_⟩
      refine ⟨_, rfl, rfl, _, rfl, ifF (by show decide (V.str ("wait" : Str) = V.str "say") = false; decide +kernel) ?_⟩
      refine ⟨_, rfl, (by show 2 ≤ sizeLine; decide), fun p2 hp2 => ?_⟩
      refine ⟨p2, _, rfl, .inr (SqT.of upd_same), rfl, rfl, _, rfl, ifT (by show inV (V.str ("wait" : Str)) [V.str "wait", V.str "stop"] = true; decide +kernel) ?_⟩
      exact q _ (smNew (smNew (Same.refl H) hp1 _) hp2 _)
    | ite =>
      refine ⟨_, rfl, (by show 2 ≤ sizeLine; decide), fun p1 hp1 => ?_⟩
      refine ⟨p1, _, rfl, .inr (SqT.of upd_same), rfl, rfl, _, rfl, ifF (by show inV (V.str ("if" : Str)) [V.str "read", V.str "copy"] = false; decide +kernel) ?_⟩
      refine ⟨_, rfl, rfl, _, rfl, ifF (by show decide (V.str ("if" : Str) = V.str "set") = false; decide +kernel) ?_⟩
      refine ⟨_, rfl, rfl, _, rfl, ifF (by show decide (V.str ("if" : Str) = V.str "print") = false; decide +kernel) ?_⟩
      refine ⟨_, rfl, rfl, _, rfl, ifF (by show decide (V.str ("if" : Str) = V.str "say") = false; decide +kernel) ?_⟩
      refine ⟨_, rfl, (by show 2 ≤ sizeLine; decide), fun p2 hp2 => ?_⟩
      refine ⟨p2, _, rfl, .inr (SqT.of upd_same), rfl, rfl, _, rfl, ifF (by show inV (V.str ("if" : Str)) [V.str "wait", V.str "stop"] = false; decide +kernel) ?_⟩
      refine ⟨_, rfl, rfl, _, rfl, ifT (by show decide (V.str ("if" : Str) = V.str "if") = true; decide +kernel) ?_⟩
      exact q _ (smNew (smNew (Same.refl H) hp1 _) hp2 _)
    | same =>
      refine ⟨_, rfl, (by show 2 ≤ sizeLine; decide), fun p1 hp1 => ?_⟩
      refine ⟨p1, _, rfl, .inr (SqT.of upd_same), rfl, rfl, _, rfl, ifF (by show inV (V.str ("same" : Str)) [V.str "read", V.str "copy"] = false; decide +kernel) ?_⟩
      refine ⟨_, rfl, rfl, _, rfl, ifF (by show decide (V.str ("same" : Str) = V.str "set") = false; decide +kernel) ?_⟩
      refine ⟨_, rfl, rfl, _, rfl, ifF (by show decide (V.str ("same" : Str) = V.str "print") = false; decide +kernel) ?_⟩
      refine ⟨_, rfl, rfl, _, rfl, ifF (by show decide (V.str ("same" : Str) = V.str "say") = false; decide +kernel) ?_⟩
      refine ⟨_, rfl, (by show 2 ≤ sizeLine; decide), fun p2 hp2 => ?_⟩
      refine ⟨p2, _, rfl, .inr (SqT.of upd_same), rfl, rfl, _, rfl, ifF (by show inV (V.str ("same" : Str)) [V.str "wait", V.str "stop"] = false; decide +kernel) ?_⟩
      refine ⟨_, rfl, rfl, _, rfl, ifF (by show decide (V.str ("same" : Str) = V.str "if") = false; decide +kernel) ?_⟩
      refine ⟨_, rfl, rfl, _, rfl, ifT (by show decide (V.str ("same" : Str) = V.str "same") = true; decide +kernel) ?_⟩
      exact q _ (smNew (smNew (Same.refl H) hp1 _) hp2 _)
    | rep =>
      refine ⟨_, rfl, (by show 2 ≤ sizeLine; decide), fun p1 hp1 => ?_⟩
      refine ⟨p1, _, rfl, .inr (SqT.of upd_same), rfl, rfl, _, rfl, ifF (by show inV (V.str ("repeat" : Str)) [V.str "read", V.str "copy"] = false; decide +kernel) ?_⟩
      refine ⟨_, rfl, rfl, _, rfl, ifF (by show decide (V.str ("repeat" : Str) = V.str "set") = false; decide +kernel) ?_⟩
      refine ⟨_, rfl, rfl, _, rfl, ifF (by show decide (V.str ("repeat" : Str) = V.str "print") = false; decide +kernel) ?_⟩
      refine ⟨_, rfl, rfl, _, rfl, ifF (by show decide (V.str ("repeat" : Str) = V.str "say") = false; decide +kernel) ?_⟩
      refine ⟨_, rfl, (by show 2 ≤ sizeLine; decide), fun p2 hp2 => ?_⟩
      refine ⟨p2, _, rfl, .inr (SqT.of upd_same), rfl, rfl, _, rfl, ifF (by show inV (V.str ("repeat" : Str)) [V.str "wait", V.str "stop"] = false; decide +kernel) ?_⟩
      refine ⟨_, rfl, rfl, _, rfl, ifF (by show decide (V.str ("repeat" : Str) = V.str "if") = false; decide +kernel) ?_⟩
      refine ⟨_, rfl, rfl, _, rfl, ifF (by show decide (V.str ("repeat" : Str) = V.str "same") = false; decide +kernel) ?_⟩
      refine ⟨_, rfl, rfl, _, rfl, ifT (by show decide (V.str ("repeat" : Str) = V.str "repeat") = true; decide +kernel) ?_⟩
      exact q _ (smNew (smNew (Same.refl H) hp1 _) hp2 _)
    | stop =>
      refine ⟨_, rfl, (by show 2 ≤ sizeLine; decide), fun p1 hp1 => ?_⟩
      refine ⟨p1, _, rfl, .inr (SqT.of upd_same), rfl, rfl, _, rfl, ifF (by show inV (V.str ("stop" : Str)) [V.str "read", V.str "copy"] = false; decide +kernel) ?_⟩
      refine ⟨_, rfl, rfl, _, rfl, ifF (by show decide (V.str ("stop" : Str) = V.str "set") = false; decide +kernel) ?_⟩
      refine ⟨_, rfl, rfl, _, rfl, ifF (by show decide (V.str ("stop" : Str) = V.str "print") = false; decide +kernel) ?_⟩
      refine ⟨_, rfl, rfl, _, rfl, ifF (by show decide (V.str ("stop" : Str) = V.str "say") = false; decide +kernel) ?_⟩
      refine ⟨_, rfl, (by show 2 ≤ sizeLine; decide), fun p2 hp2 => ?_⟩
      refine ⟨p2, _, rfl, .inr (SqT.of upd_same), rfl, rfl, _, rfl, ifT (by show inV (V.str ("stop" : Str)) [V.str "wait", V.str "stop"] = true; decide +kernel) ?_⟩
      exact q _ (smNew (smNew (Same.refl H) hp1 _) hp2 _)
  · refine ⟨_, rfl, (by show 2 ≤ sizeLine; decide), fun p1 hp1 => ?_⟩
    refine ⟨p1, _, rfl, .inr (SqT.of upd_same), rfl, rfl, _, rfl, ifF (by show inV (V.str ("loop" : Str)) [V.str "read", V.str "copy"] = false; decide +kernel) ?_⟩
    refine ⟨_, rfl, rfl, _, rfl, ifF (by show decide (V.str ("loop" : Str) = V.str "set") = false; decide +kernel) ?_⟩
    refine ⟨_, rfl, rfl, _, rfl, ifF (by show decide (V.str ("loop" : Str) = V.str "print") = false; decide +kernel) ?_⟩
    refine ⟨_, rfl, rfl, _, rfl, ifF (by show decide (V.str ("loop" : Str) = V.str "say") = false; decide +kernel) ?_⟩
    refine ⟨_, rfl, (by show 2 ≤ sizeLine; decide), fun p2 hp2 => ?_⟩
    refine ⟨p2, _, rfl, .inr (SqT.of upd_same), rfl, rfl, _, rfl, ifF (by show inV (V.str ("loop" : Str)) [V.str "wait", V.str "stop"] = false; decide +kernel) ?_⟩
    refine ⟨_, rfl, rfl, _, rfl, ifF (by show decide (V.str ("loop" : Str) = V.str "if") = false; decide +kernel) ?_⟩
    refine ⟨_, rfl, rfl, _, rfl, ifF (by show decide (V.str ("loop" : Str) = V.str "same") = false; decide +kernel) ?_⟩
    refine ⟨_, rfl, rfl, _, rfl, ifF (by show decide (V.str ("loop" : Str) = V.str "repeat") = false; decide +kernel) ?_⟩
    exact q _ (smNew (smNew (Same.refl H) hp1 _) hp2 _)
theorem formW_len (s : Stm) : (formW s).length = s.signs.length := by cases s <;> (simp only [formW, Stm.signs]; decide +kernel)
theorem formW_at (s : Stm) {i c : Nat} (h : s.signs[i]? = some c) : atI (formW s).cps.toList (i : Nat) = some (wSign c) := by
  have e : (formW s).cps.toList = s.signs.map wSign := by cases s <;> (simp only [formW, Stm.signs]; decide +kernel)
  rw [e]
  exact atI_nat (by rw [List.getElem?_map, h]; rfl)
/-! ### _law_good -/
def spGood (K : PySem.W.Frag) : Sp := fun vs H Q _ => match vs with
  | [x] => (∃ (s : Stm) (ds : List PyData), Dp K H x (.tuple (.str s.word :: ds)) ∧ smallsD ds ∧ ds.length ≤ 1000 ∧ ∀ H', Same H H' → Q (.bl (goodT s ds)) H') ∨ ∃ d, Dp K H x d ∧ Odd d ∧ ∀ H', Same H H' → Q (.bl false) H'
  | _ => False
theorem sc_law_good : FnScope ["_law_one", "_law_form_here", "_law_k"] ["_law_one"] (defScope s_law_good) := ⟨rfl, rfl, rfl, by decide +kernel, rfl, by decide +kernel, by decide +kernel⟩
theorem c_law_good (T : Top w K mg) : Cal P w K mg base CX0 3 "_law_good" (spGood K) := by
  refine cal_0 (f_law_good T) (g_law_good T) sc_law_good (fun _ _ _ _ _ _ us hl => match us, hl with | [_], _ => rfl) (fun vs H Q E h => match vs, h with | [_], _ => rfl) (fun cdv A outer s H vs Q E hr h => ?_)
  match vs, h with
  | [x], h =>
  refine ⟨_, (pss_cons (ps_if (PW.pt (pw_or (pt_not (pt_val (pcb (z_isinstance T) call_isi boot_isinstance (pa_cons (pv 0) (pa_cons (pty (z_tuple T) boot_tuple) pa_nil))))) (pw_or (pt_cmpR op_eq (pcb (z_len T) call_len_seq boot_len (pa_cons (pv 0) pa_nil)) pe_int (nomark _)) (pw_or1 (pt_not (pt_val (pcb (z_isinstance T) call_isi boot_isinstance (pa_cons (pe_ix ix_tup (pv 0) pe_int (fun _ _ => rfl)) (pa_cons (pty (z_str T) boot_str) pa_nil)))))))))
      (pss_one (ps_ret pe_bl))
      pss_nil)
    (pss_cons (ps_set (i := 1) sc_law_good.nd rfl (Or.inr rfl) (pc (c_law_form T) hr (pa_cons (pe_ix ix_tup (pv 0) pe_int (fun _ _ => rfl)) pa_nil)))
    (pss_cons (ps_if (PW.pt (pw_or (pt_cmpR op_eq (pv 1) pe_str (nomark _)) (pw_or1 (pt_cmpR op_ne (pcb (z_len T) call_len_seq boot_len (pa_cons (pv 0) pa_nil)) (pe_op op_add (pcb (z_len T) call_len_str boot_len (pa_cons (pv 1) pa_nil)) pe_int) (nomark _)))))
      (pss_one (ps_ret pe_bl))
      pss_nil)
    (pss_one (ps_ret (pcb (z_all T) (cr_all rfl) boot_all (pa_cons (pe_lc (own := [("_law_k", 2)]) rfl sc_law_good.nd (pi_range1 rfl (z_range T) (pa_cons (pcb (z_len T) call_len_str boot_len (pa_cons (pv 1) pa_nil)) pa_nil)) (blkOk_by (own := [("_law_k", 2)]) (N := ["_law_one", "_law_form_here", "_law_k"]) (sc := defScope s_law_good) (by decide +kernel)) (fun _ _ _ _ _ => (pg_name (i := 2) sc_law_good.nd rfl (Or.inl rfl) (Or.inr rfl))) (fun _ _ _ _ _ => pts_nil) (fun _ _ _ _ _ => (pc (c_law_item_good T) hr (pa_cons (pe_ix (ix_tup' (K := K) rfl) (pv 0) (pe_op op_add (pv 2) pe_int) (fun _ _ => rfl)) (pa_cons (pe_ix ix_str (pv 1) (pv 2) (fun _ _ => rfl)) pa_nil))))) pa_nil))))))), ?_⟩
  rcases h with ⟨s, ds, hd, hs, hl, q⟩ | ⟨d, hd, ho, q0⟩
  case inr =>
    have q := q0 H (Same.refl H)
    cases ho with
    | non => cases hd; exact ⟨_, rfl, _, _, _, _, false, rfl, .ty _, .base .non, kit_ty (by decide +kernel), _, rfl, iteT q⟩
    | bl b => cases hd; exact ⟨_, rfl, _, _, _, _, false, rfl, .ty _, .base (.bl b), kit_ty (by decide +kernel), _, rfl, iteT q⟩
    | int b => cases hd; exact ⟨_, rfl, _, _, _, _, false, rfl, .ty _, .base (.int b), kit_ty (by decide +kernel), _, rfl, iteT q⟩
    | str b => cases hd; exact ⟨_, rfl, _, _, _, _, false, rfl, .ty _, .base (.str b), kit_ty (by decide +kernel), _, rfl, iteT q⟩
    | lst b =>
      obtain ⟨a, xs, rfl, h1, _⟩ := Dp.lst_inv hd
      exact ⟨_, rfl, _, _, _, _, false, rfl, .ty _, tyL h1, kit_ty (by decide +kernel), _, rfl, iteT q⟩
    | nil =>
      obtain ⟨a, xs, rfl, ha, hx⟩ := Dp.tup_inv hd
      obtain rfl := DpAll.nil_inv hx
      refine ⟨_, rfl, _, _, _, _, true, rfl, .ty _, tyT ha, kit_ty (by decide +kernel), _, rfl, iteF ?_⟩
      exact ⟨_, rfl, _, _, rfl, .inr ha, rfl, _, rfl, iteT q⟩
    | loop ds =>
      obtain ⟨a, xs, rfl, ha, hx⟩ := Dp.tup_inv hd
      obtain ⟨v, r, rfl, h1, h2⟩ := DpAll.cons_inv hx
      obtain rfl := Dp.str_inv h1
      refine ⟨_, rfl, _, _, _, _, true, rfl, .ty _, tyT ha, kit_ty (by decide +kernel), _, rfl, iteF ?_⟩
      refine ⟨_, rfl, _, _, rfl, .inr ha, rfl, _, rfl, iteF ?_⟩
      refine ⟨_, rfl, _, _, _, _, rfl, rfl, ha, at0, ?_⟩
      refine ⟨_, _, _, _, true, rfl, .ty _, .base (.str _), kit_ty (by decide +kernel), _, rfl, iteF ?_⟩
      refine ⟨_, rfl, _, _, _, _, rfl, rfl, ha, at0, .inr ⟨rfl, fun H1 s1 => ?_⟩⟩
      exact ⟨_, rfl, rfl, _, rfl, iteT (q0 H1 s1)⟩
  obtain ⟨a, xs0, rfl, ha, hx0⟩ := Dp.tup_inv hd
  obtain ⟨v, xs, rfl, h1, hx⟩ := DpAll.cons_inv hx0
  obtain rfl := Dp.str_inv h1
  have lx := DpAll.len hx
  refine ⟨_, rfl, _, _, _, _, true, rfl, .ty _, tyT ha, kit_ty (by decide +kernel), _, rfl, iteF ?_⟩
  refine ⟨_, rfl, _, _, rfl, .inr ha, rfl, _, rfl, iteF ?_⟩
  refine ⟨_, rfl, _, _, _, _, rfl, rfl, ha, at0, ?_⟩
  refine ⟨_, _, _, _, true, rfl, .ty _, .base (.str _), kit_ty (by decide +kernel), _, rfl, iteF ?_⟩
  refine ⟨_, rfl, _, _, _, _, rfl, rfl, ha, at0, .inl ⟨s, rfl, fun H1 s1 => ?_⟩⟩
  have hno : decide (V.str (formW s) = V.str "no") = false := by
    have key : ∀ z ∈ (["ww", "wv", "w", "v", "", "wvbb", "wwbb", "tb"] : List Str), decide (V.str z = V.str "no") = false := by decide +kernel
    exact key _ (by cases s <;> simp [formW])
  have fz : (formW s).length = s.signs.length := formW_len s
  have f4 : s.signs.length ≤ 4 := by cases s <;> simp [Stm.signs]
  have ha1 := smT s1 ha
  refine ⟨_, rfl, rfl, _, rfl, ?_⟩
  rw [hno]
  refine iteF ?_
  refine ⟨_, rfl, _, _, rfl, .inr ha1, _, rfl, _, rfl, Nat.le_of_lt (small1000 (by omega)), _, _, rfl, rfl, rfl, _, rfl, ?_⟩
  by_cases c : ds.length = s.signs.length
  case neg =>
    refine ifT ?_ ?_
    · rw [Bool.not_eq_true', decide_eq_false_iff_not]
      intro e
      have e2 : (((V.str s.word :: xs).length : Nat) : Int) = ((formW s).length : Int) + 1 := V.int.inj e
      rw [List.length_cons] at e2
      omega
    · have q0 := q H1 s1
      unfold goodT at q0
      rw [decide_eq_false c] at q0
      exact q0
  refine ifF ?_ ?_
  · rw [Bool.not_eq_false', decide_eq_true_eq]
    show V.int (((V.str s.word :: xs).length : Nat) : Int) = V.int (((formW s).length : Int) + 1)
    rw [List.length_cons, lx, c, fz]
    rfl
  refine ⟨_, rfl, _, rfl, Nat.le_of_lt (small1000 (by omega)), _, rfl, by omega, by omega, ?_⟩
  intro D nD
  refine lc_opt (walk_range (lo := 0) (n := (formW s).length)) (fun (b : Bool) y _ => y = .bl b) (fun i => (List.zipWith goodI s.signs ds)[i]?) nD (small1000 (by omega)) (fun _ _ => trivial) (fun _ _ _ _ h _ => h) (fun _ _ _ _ _ h _ => h) ?_ ?_
  · rintro j y H6 H7 N hj e ⟨rfl, rfl⟩ hk _
    refine ⟨rfl, yesI ?_⟩
    have s7 : Same H H7 := s1.trans e
    obtain ⟨c1, hc1⟩ : ∃ c, s.signs[j]? = some c := ⟨s.signs[j]'(by omega), by simp⟩
    obtain ⟨d, hd1⟩ : ∃ d, ds[j]? = some d := ⟨ds[j]'(by omega), by simp⟩
    obtain ⟨x, hx1, hx2⟩ := DpAll.get hx hd1
    have a1 : atI (V.str s.word :: xs) (0 + (j : Int) + 1) = some x := by
      rw [show (0 + (j : Int) + 1) = ((j + 1 : Nat) : Int) by omega]
      exact atI_nat (by rw [List.getElem?_cons_succ]; exact hx1)
    have a2 : atI (formW s).cps.toList (0 + (j : Int)) = some (wSign c1) := by
      rw [show (0 + (j : Int)) = (j : Int) by omega]
      exact formW_at s hc1
    refine ⟨_, rfl, _, rfl, _, _, rfl, rfl, _, _, _, _, rfl, rfl, smT s7 ha, a1, ?_⟩
    refine ⟨_, rfl, _, rfl, _, _, _, rfl, rfl, Nat.le_of_lt (small1000 (by omega)), a2, ?_⟩
    refine ⟨c1, d, rfl, sign_one s hc1, Dp.keep s7 hx2, hs d (List.mem_of_getElem? hd1), fun H8 s8 => ?_⟩
    exact hk _ _ (goodI c1 d) (by rw [List.getElem?_zipWith, hc1, hd1]) s8 rfl
  intro H6 ys e6 hD hp'
  have ez : (formW s).length = (List.zipWith goodI s.signs ds).length := by rw [List.length_zipWith]; omega
  rw [ez, some_range] at hp'
  rw [paired_bl hp'] at hD
  have e3 : goodT s ds = (List.zipWith goodI s.signs ds).all id := by unfold goodT; rw [decide_eq_true c]; rfl
  have q1 := q H6 (s1.trans e6)
  rw [e3] at q1
  exact ⟨_, _, rfl, SqL.of hD, q1⟩
end
end RM

set_option Elab.async false
set_option linter.all false
set_option maxRecDepth 100000
set_option maxHeartbeats 2000000
namespace RM
open PySem PySem.Spec PyProof.Rows L2
section
variable {P : Program} {w : World} {K : PySem.W.Frag} {mg : Str → Option Value} {base : Heap}
/-! ### bodies_of -/
def spBodies (K : PySem.W.Frag) : Sp := fun vs H Q _ => match vs with
  | [x] => ∃ (fl : Bool) (s : Stm), Dp K H x (encS fl s) ∧
    ∀ p H' ys, Same H H' → H p = none → H' p = some (.lst ys) → DpAll K H ys (s.bodies.map fun b => seqD fl (encB fl b)) → Q (.ref p) H'
  | _ => False
theorem sc_bodies_of : FnScope ["statement", "item", "sign"] ["statement"] (defScope s_bodies_of) := ⟨rfl, rfl, rfl, by decide +kernel, rfl, by decide +kernel, by decide +kernel⟩
theorem paired_dp {K : PySem.W.Frag} {H : Hp} : ∀ {ys : List V} {ds : List PyData}, Paired (fun y a => Dp K H y a) ys ds → DpAll K H ys ds
  | _, _, .nil => .nil
  | _, _, .cons h t => .cons h (paired_dp t)
theorem c_bodies_of (T : Top w K mg) : Cal P w K mg base CX0 1 "bodies_of" (spBodies K) := by
  refine cal_0 (f_bodies_of T) (g_bodies_of T) sc_bodies_of (fun _ _ _ _ _ _ us hl => match us, hl with | [_], _ => rfl) (fun vs H Q E h => match vs, h with | [_], _ => rfl) (fun cdv A outer s H vs Q E hr h => ?_)
  match vs, h with
  | [x], h =>
  obtain ⟨fl, s, hd, q⟩ := h
  obtain ⟨a, xs, rfl, ha, hx⟩ := shape_of hd
  have hl : xs.length = s.form.cps.size := ShapeS.items hx
  have i4 := form_five s
  refine ⟨_, (pss_one (ps_ret (pe_lc (own := [("item", 1), ("sign", 2)]) rfl sc_bodies_of.nd (pi_zipTS (by rfl) (z_zip T) (pa_cons (pe_slice sl_tup (pv 0) (po_some pe_int) po_none) (pa_cons (pe_ix ix_kdict (pglR (g_FORMS T)) (pe_ix ix_tup (pv 0) pe_int (fun _ _ => rfl)) (fun _ _ => rfl)) pa_nil))) (blkOk_by (own := [("item", 1), ("sign", 2)]) (N := ["statement", "item", "sign"]) (sc := defScope s_bodies_of) (by decide +kernel)) (fun _ _ _ _ _ => (pg_tup' (n := 2) (K := K) rfl rfl (pgs_cons (pg_name (i := 1) sc_bodies_of.nd rfl (Or.inl rfl) (Or.inr rfl)) (pgs_cons (pg_name (i := 2) sc_bodies_of.nd rfl (Or.inl rfl) (Or.inr rfl)) pgs_nil)) rfl rfl)) (fun _ _ _ _ _ => (pts_one (pt_cmpR op_eq (pv 2) pe_str (nomark _)))) (fun _ _ _ _ _ => (pv 1))))), ?_⟩
  refine ⟨_, rfl, _, rfl, _, _, rfl, ha, cut_not, fun p hp => ?_⟩
  rw [cut_tail]
  have s1 : Same H (upd H p (.tup xs)) := smNew1 hp _
  refine ⟨_, rfl, _, _, _, _, rfl, rfl, smT s1 ha, at0, _, _, _, rfl, rfl, kd_form T s, ?_⟩
  refine ⟨_, xs, _, rfl, SqT.of upd_same, fun D nD => ?_⟩
  have hDn : H D = none := s1.free nD
  refine lc_opt (walk_zipTS hl) (fun (d : PyData) y _ => Dp K H y d) (fun i => if s.signs[i]? = some 98 then (s.flats ++ s.bodies.map fun b => seqD fl (encB fl b))[i]? else none) nD (small1000 (by omega)) (fun H' e => smT e (SqT.of upd_same)) (fun _ _ _ _ h _ => h) (fun _ _ _ _ _ h _ => h) ?_ ?_
  · rintro i x H1 H2 N hi e ⟨t, y, z, rfl, ht, rfl, hy, hz⟩ hk hno
    obtain ⟨c, hc, rfl⟩ := Option.map_eq_some_iff.mp hz
    have hs := sign_at hc
    refine ⟨t, _, rfl, SqT.of upd_same, rfl, _, _, rfl, _, _, rfl, rfl, rfl, _, rfl, ?_⟩
    obtain ⟨d, hd1, hd2⟩ := DpAll.getV hx hy
    by_cases c98 : c = 98
    · subst c98
      refine ⟨rfl, _, rfl, ifT (by rw [str_b, sgn]; rfl) ?_⟩
      exact ⟨_, rfl, hk _ _ d (by rw [hs, if_pos rfl]; exact hd1) (smNew1 ht _) hd2⟩
    · refine ⟨rfl, _, rfl, ifF (by rw [str_b, sgn]; exact decide_eq_false c98) ?_⟩
      exact hno (by rw [hs, if_neg (fun z => c98 (Option.some.inj z))]) _ (smNew1 ht _)
  · intro H' ys e hD hp'
    have e2 : xs.length = (s.flats ++ s.bodies.map fun b => seqD fl (encB fl b)).length := DpAll.len hx
    rw [e2, bodies_sel] at hp'
    exact q D H' ys (fun b o z => e _ _ (s1 b o z)) hDn hD (paired_dp hp')
/-! ### check_body -/
def spCheck (K : PySem.W.Frag) (n : Nat) : Sp := fun vs H Q _ => match vs with
  | [b, p] => ∃ (fl : Bool) (l : List Stm) (pth : List Int), Dp K H b (seqD fl (encB fl l)) ∧ Dp K H p (pathD pth) ∧ wB l = true ∧ dB l ≤ n ∧ pth.length + 2 * n ≤ 1000 ∧ ∀ H', Same H H' → Q .non H'
  | _ => False
theorem sc_check_body : FnScope ["body", "path", "place", "statement", "here", "number", "inner"] ["body", "path"] (defScope s_check_body) := ⟨rfl, rfl, rfl, by decide +kernel, rfl, by decide +kernel, by decide +kernel⟩
theorem path_snoc {H : Hp} {a b : Addr} {p : List Int} {i : Int} {Q : VK} (ha : SqT K H a (p.map V.int)) (hb : SqT K H b [.int i]) (hl : p.length + 1 ≤ sizeLine)
    (q : ∀ v H', Same H H' → Dp K H' v (pathD (p ++ [i])) → Q v H') : CatG K (.ref a) (.ref b) H Q :=
  catA_of ha hb (by rw [List.length_map]; exact hl) fun t H' e h => q _ H' e (path_dp (by rw [List.map_append]; exact h))
theorem ok_check (T : Top w K mg) {n : Nat} (ih : Cal P w K mg base CX0 (n + 4) "check_body" (spCheck K n)) : Cal P w K mg base CX0 (n + 5) "check_body" (spCheck K (n + 1)) := by
  refine cal_0 (f_check_body T) (g_check_body T) sc_check_body (fun _ _ _ _ _ _ us hl => match us, hl with | [_, _], _ => rfl) (fun vs H Q E h => match vs, h with | [_, _], _ => rfl) (fun cdv A outer s H vs Q E hr h => ?_)
  match vs, h with
  | [b, p], h =>
  obtain ⟨fl, l, pth, hb, hp, hw, hn, hlen, q⟩ := h
  obtain ⟨a, xs, rfl, ha, hx⟩ := seqD_inv hb
  refine ⟨_, (pss_one (ps_for PassesOwn.never rfl (pi_enumA (by rfl) (z_enumerate T) (pa_cons (pv 0) pa_nil)) (pg_tup rfl (pgs_cons (pg_name (i := 2) sc_check_body.nd rfl (Or.inl rfl)) (pgs_cons (pg_name (i := 3) sc_check_body.nd rfl (Or.inl rfl)) pgs_nil)))
      (pss_cons (ps_set (i := 4) sc_check_body.nd rfl (Or.inl rfl) (pe_op op_catG (pv 1) (pe_tup (pa_cons (pv 2) pa_nil))))
    (pss_cons (ps_if (pt_not (pt_val (pc (c_is_statement T) hr (pa_cons (pv 3) pa_nil))))
      (pss_one ps_never)
      pss_nil)
    (pss_one (ps_for PassesOwn.never rfl (pi_enumA (by rfl) (z_enumerate T) (pa_cons (pc (c_bodies_of T) hr (pa_cons (pv 3) pa_nil)) pa_nil)) (pg_tup rfl (pgs_cons (pg_name (i := 5) sc_check_body.nd rfl (Or.inl rfl)) (pgs_cons (pg_name (i := 6) sc_check_body.nd rfl (Or.inl rfl)) pgs_nil)))
      (pss_one (ps_expr (pc ih hr (pa_cons (pv 6) (pa_cons (pe_op op_catG (pv 4) (pe_tup (pa_cons (pv 5) pa_nil))) pa_nil))))))))))), ?_⟩
  have lx : xs.length = l.length := by rw [DpAll.len hx, encB_map, List.length_map]
  refine ⟨_, rfl, ?_⟩
  refine enumA_of ha (Same.refl _) fun J wk => ?_
  refine for_it wk (fun i σ H' => Same H H' ∧ ∃ v2 v3 v4 v5 v6, σ = [some (.ref a), some p, v2, v3, v4, v5, v6]) ⟨Same.refl H, _, _, _, _, _, rfl⟩ (fun _ _ _ _ h => h.1) ?_ ?_
  · rintro i x σ H1 H2 hi ⟨s1, v2, v3, v4, v5, v6, rfl⟩ ⟨t, y, z, rfl, ht, rfl, hy, hz⟩
    obtain rfl : V.int (i : Nat) = y := Option.some.inj hy
    obtain ⟨d, hd1, hd2⟩ := DpAll.getV hx hz
    obtain ⟨st, hst, rfl⟩ := encB_get hd1
    have hm : st ∈ l := List.mem_of_getElem? hst
    have hws := wB_all hw st hm
    have s2 := smNew s1 ht (.tup [.int (i : Nat), z])
    refine ⟨t, _, rfl, SqT.of upd_same, rfl, _, _, rfl, _, _, rfl, rfl, ?_⟩
    -- here = path + (place,)
    obtain ⟨pa, rfl, hpa⟩ := path_inv (Dp.keep s2 hp)
    refine ⟨_, rfl, _, rfl, (by show 1 ≤ sizeLine; decide), fun p1 hp1 => ?_⟩
    have s3 := smNew s2 hp1 (.tup [.int (i : Nat)])
    refine path_snoc (smT (smNew1 hp1 _) hpa) (SqT.of upd_same) (Nat.le_of_lt (small1000 (by omega))) fun here H3 s3' hh => ?_
    have s4 : Same H H3 := s3.trans s3'
    -- if not is_statement(statement)
    refine ⟨_, rfl, fl, st, Dp.keep s4 hd2, wl_of hws, fun H4 e4 => ⟨_, rfl, iteF ?_⟩⟩
    have s5 : Same H H4 := s4.trans e4
    -- for number, inner in enumerate(bodies_of(statement))
    refine ⟨_, rfl, fl, st, Dp.keep s5 hd2, fun pb H5 ys e5 npb hpb hys => ?_⟩
    refine enumA_of (.inl (SqL.of hpb)) (Same.refl _) fun J2 wk2 => ?_
    refine for_it wk2 (fun j σ H' => Same H5 H' ∧ ∃ v5 v6, σ = [some (.ref a), some (.ref pa), some (.int (i : Nat)), some z, some here, v5, v6]) ⟨Same.refl H5, _, _, rfl⟩ (fun _ _ _ _ h => h.1) ?_ ?_
    · rintro j x2 σ2 H6 H7 hj ⟨s6, w5, w6, rfl⟩ ⟨t2, y2, z2, rfl, ht2, rfl, hy2, hz2⟩
      obtain rfl : V.int (j : Nat) = y2 := Option.some.inj hy2
      obtain ⟨d2, hd3, hd4⟩ := DpAll.getV hys hz2
      rw [List.getElem?_map] at hd3
      obtain ⟨bd, hbd, rfl⟩ := Option.map_eq_some_iff.mp hd3
      have hmb : bd ∈ st.bodies := List.mem_of_getElem? hbd
      have s7 : Same H4 H6 := e5.trans s6
      have s8 := smNew s7 ht2 (.tup [.int (j : Nat), z2])
      refine ⟨t2, _, rfl, SqT.of upd_same, rfl, _, _, rfl, _, _, rfl, rfl, ?_⟩
      obtain ⟨ha2, rfl, hha⟩ := path_inv (Dp.keep s8 (Dp.keep e4 hh))
      refine ⟨_, rfl, _, rfl, _, rfl, (by show 1 ≤ sizeLine; decide), fun p2 hp2 => ?_⟩
      refine path_snoc (smT (smNew1 hp2 _) hha) (SqT.of upd_same) (Nat.le_of_lt (small1000 (by rw [List.length_append]; show pth.length + 1 + 1 ≤ 1000; omega))) fun hv H8 s9 hhv => ?_
      have s10 : Same H4 H8 := (smNew s8 hp2 _).trans s9
      have d1 := dB_mem hm
      have d2' := dS_mem hmb
      refine ⟨fl, bd, _, Dp.keep s10 hd4, hhv, wB_of hws bd hmb, by omega, by rw [List.length_append, List.length_append]; show pth.length + 1 + 1 + 2 * n ≤ 1000; omega, fun H9 e9 => ?_⟩
      refine ⟨fun b o z => e9 _ _ ((smNew (smNew s6 ht2 _) hp2 _).trans s9 b o z), _, _, rfl⟩
    · rintro σ2 H6 ⟨s6, w5, w6, rfl⟩
      exact ⟨s5.trans (e5.trans s6), _, _, _, _, _, rfl⟩
  · rintro σ H1 ⟨s1, v2, v3, v4, v5, v6, rfl⟩
    exact q H1 s1
theorem c_check_body (T : Top w K mg) : ∀ n, Cal P w K mg base CX0 (n + 4) "check_body" (spCheck K n)
  | 0 => cal_never (f_check_body T) (g_check_body T) (ps := ["body", "path"]) (fun _ _ _ _ _ _ us hl => match us, hl with | [_, _], _ => rfl) fun vs H Q E h => by
      match vs, h with
      | [b, p], h =>
      obtain ⟨fl, l, pth, _, _, _, hn, _⟩ := h
      have := dB_one l
      omega
  | n + 1 => ok_check T (c_check_body T n)
end
end RM

set_option Elab.async false
set_option linter.all false
set_option maxRecDepth 100000
set_option maxHeartbeats 2000000
namespace RM
open PySem PySem.Spec PyProof.Rows L2
section
variable {P : Program} {w : World} {K : PySem.W.Frag} {mg : Str → Option Value} {base : Heap}
/-! ### an own exception with one field -/
/-- its __init__: the field holds the argument -/
def spExo (C : Addr) (f : Str) : Sp := fun vs H Q _ => match vs with
  | [x, v] => ∃ a, x = .ref a ∧ H a = some (exo a C none) ∧ ∀ dx, H dx = none → dx ≠ a → Q .non (upd (upd H dx (exd dx [(f, v)])) a (exo a C (some dx)))
  | _ => False
theorem exo_0 {qual x : Str} {C : Addr} {k : Nat} {sp : Sp} {st : Stmt} {f : Addr} {N ps : List Str} (F : ∃ fd, FunD K "__init__" qual (defArgs st) (defBody st) (defScope st) [] [] f fd) (T : OexC K C) (M : Meth K C "__init__" f) (hm : mg x = some (.ref C)) (S : FnScope N ps (defScope st))
    (hb : ∀ (kV doc pm : Value) (an : Option Addr) (cdv ct : Value) (us : List Value), us.length = ps.length → bindArgs (PySem.W.fnOf "__init__" qual (defArgs st) (defBody st) (defScope st) .none kV doc pm an cdv ct) ⟨us, []⟩ = pure (ps.zip us))
    (len : ∀ vs H Q E, sp vs H Q E → vs.length = ps.length) (h : Body0 P w K mg base N qual st f k sp) : Exo P w K mg base (k + 1) x C sp :=
  let ⟨fd, F⟩ := F
  ⟨f, fd, ps, T, M, fn_0 F S len h, hm, F.bindsN hb⟩
/-- raise C(v): what is to be shown -/
theorem raise1 {C : Addr} {f : Str} {v : V} {H : Hp} {Q : XK} (q : ∀ d H', H d = none → Same H H' → H' d = some (.xd [(f, v)]) → Q (.ref C) (some d) H') :
    [v].length ≤ 1000 ∧ ∀ a, H a = none → spExo C f (.ref a :: ([v] ++ [])) (upd H a (exo a C none))
      (fun u H2 => u = .non ∧ ∃ (d : Addr) (fs : List (Str × V)), H2 a = some (exo a C (some d)) ∧ H2 d = some (exd d fs) ∧ H d = none ∧ Q (.ref C) (some d) (upd (L2.del H2 a) d (.xd fs))) (fun _ _ _ => False) := by
  refine ⟨by show 1 ≤ 1000; omega, fun a ha => ⟨a, rfl, upd_same, fun dx h1 h2 => ⟨rfl, dx, [(f, v)], upd_same, ?_, ?_, ?_⟩⟩⟩
  · rw [upd_ne h2, upd_same]
  · rw [upd_ne h2] at h1; exact h1
  · have hd : H dx = none := by rw [upd_ne h2] at h1; exact h1
    refine q dx _ hd (fun b o hb => ?_) upd_same
    have n1 : b ≠ a := ne_of_none hb ha
    have n2 : b ≠ dx := ne_of_none hb hd
    rw [upd_ne n2, L2.del_ne n1, upd_ne n1, upd_ne n2, upd_ne n1]
    exact hb
theorem sc_BadStatement_init : FnScope ["self", "path"] ["self", "path"] (defScope s_BadStatement_init) := ⟨rfl, rfl, rfl, by decide +kernel, rfl, by decide +kernel, by decide +kernel⟩
theorem c_BadStatement_init (T : Top w K mg) : Exo P w K mg base 1 "BadStatement" (He.ga K "BadStatement") (spExo (He.ga K "BadStatement") "path") := by
  refine exo_0 (f_BadStatement_init T) (oexB_ok (oex_BadStatement T)) (me_BadStatement_init T) (g_BadStatement T) sc_BadStatement_init (fun _ _ _ _ _ _ us hl => match us, hl with | [_, _], _ => rfl) (fun vs H Q E h => match vs, h with | [_, _], _ => rfl) (fun cdv A outer s H vs Q E hr h => ?_)
  match vs, h with
  | [x, v], h =>
  obtain ⟨a, rfl, ha, q⟩ := h
  refine ⟨_, (pss_one (ps_ost (pv 0) (pv 1))), ?_⟩
  exact ⟨_, rfl, _, rfl, a, _, rfl, oexB_ok (oex_BadStatement T), na_BadStatement_path T, .inl ⟨ha, fun dx h1 h2 => q dx h1 h2⟩⟩
/-! ### bodies_of, of any right tuple -/
def sel98 (s : Stm) (ds : List PyData) : List PyData := (List.range ds.length).filterMap fun i => if s.signs[i]? = some 98 then ds[i]? else none
def spBodG (K : PySem.W.Frag) : Sp := fun vs H Q _ => match vs with
  | [x] => ∃ (s : Stm) (ds : List PyData), Dp K H x (.tuple (.str s.word :: ds)) ∧ ds.length = s.signs.length ∧
    ∀ p H' ys, Same H H' → H p = none → H' p = some (.lst ys) → DpAll K H ys (sel98 s ds) → Q (.ref p) H'
  | _ => False
theorem cg_bodies_of (T : Top w K mg) : Cal P w K mg base CX0 1 "bodies_of" (spBodG K) := by
  refine cal_0 (f_bodies_of T) (g_bodies_of T) sc_bodies_of (fun _ _ _ _ _ _ us hl => match us, hl with | [_], _ => rfl) (fun vs H Q E h => match vs, h with | [_], _ => rfl) (fun cdv A outer s H vs Q E hr h => ?_)
  match vs, h with
  | [x], h =>
  obtain ⟨s, ds, hd, hl0, q⟩ := h
  obtain ⟨a, xs0, rfl, ha, hx0⟩ := Dp.tup_inv hd
  obtain ⟨v, xs, rfl, h1, hx⟩ := DpAll.cons_inv hx0
  obtain rfl := Dp.str_inv h1
  have hl : xs.length = s.form.cps.size := by rw [DpAll.len hx, hl0, signs_size]
  have i4 := form_five s
  refine ⟨_, (pss_one (ps_ret (pe_lc (own := [("item", 1), ("sign", 2)]) rfl sc_bodies_of.nd (pi_zipTS (by rfl) (z_zip T) (pa_cons (pe_slice sl_tup (pv 0) (po_some pe_int) po_none) (pa_cons (pe_ix ix_kdict (pglR (g_FORMS T)) (pe_ix ix_tup (pv 0) pe_int (fun _ _ => rfl)) (fun _ _ => rfl)) pa_nil))) (blkOk_by (own := [("item", 1), ("sign", 2)]) (N := ["statement", "item", "sign"]) (sc := defScope s_bodies_of) (by decide +kernel)) (fun _ _ _ _ _ => (pg_tup' (n := 2) (K := K) rfl rfl (pgs_cons (pg_name (i := 1) sc_bodies_of.nd rfl (Or.inl rfl) (Or.inr rfl)) (pgs_cons (pg_name (i := 2) sc_bodies_of.nd rfl (Or.inl rfl) (Or.inr rfl)) pgs_nil)) rfl rfl)) (fun _ _ _ _ _ => (pts_one (pt_cmpR op_eq (pv 2) pe_str (nomark _)))) (fun _ _ _ _ _ => (pv 1))))), ?_⟩
  refine ⟨_, rfl, _, rfl, _, _, rfl, ha, cut_not, fun p hp => ?_⟩
  rw [cut_tail]
  have s1 : Same H (upd H p (.tup xs)) := smNew1 hp _
  refine ⟨_, rfl, _, _, _, _, rfl, rfl, smT s1 ha, at0, _, _, _, rfl, rfl, kd_form T s, ?_⟩
  refine ⟨_, xs, _, rfl, SqT.of upd_same, fun D nD => ?_⟩
  have hDn : H D = none := s1.free nD
  refine lc_opt (walk_zipTS hl) (fun (d : PyData) y _ => Dp K H y d) (fun i => if s.signs[i]? = some 98 then ds[i]? else none) nD (small1000 (by omega)) (fun H' e => smT e (SqT.of upd_same)) (fun _ _ _ _ h _ => h) (fun _ _ _ _ _ h _ => h) ?_ ?_
  · rintro i x H1 H2 N hi e ⟨t, y, z, rfl, ht, rfl, hy, hz⟩ hk hno
    obtain ⟨c, hc, rfl⟩ := Option.map_eq_some_iff.mp hz
    have hs := sign_at hc
    refine ⟨t, _, rfl, SqT.of upd_same, rfl, _, _, rfl, _, _, rfl, rfl, rfl, _, rfl, ?_⟩
    obtain ⟨d, hd1, hd2⟩ := DpAll.getV hx hy
    by_cases c98 : c = 98
    · subst c98
      refine ⟨rfl, _, rfl, ifT (by rw [str_b, sgn]; rfl) ?_⟩
      exact ⟨_, rfl, hk _ _ d (by rw [hs, if_pos rfl]; exact hd1) (smNew1 ht _) hd2⟩
    · refine ⟨rfl, _, rfl, ifF (by rw [str_b, sgn]; exact decide_eq_false c98) ?_⟩
      exact hno (by rw [hs, if_neg (fun z => c98 (Option.some.inj z))]) _ (smNew1 ht _)
  · intro H' ys e hD hp'
    rw [DpAll.len hx] at hp'
    exact q D H' ys (fun b o z => e _ _ (s1 b o z)) hDn hD (paired_dp hp')
/-! ### check_body, of any body -/
/-- a body with a first wrong statement: there (odd), or within the repeat there -/
inductive Bad where
  | odd (pre : List Stm) (d : PyData) (post : List PyData)
  | rep (pre : List Stm) (n : Int) (b : Bad) (post : List PyData)
/-- no statement -/
def BadS (d : PyData) : Prop := Odd d ∨ ∃ s ds, d = .tuple (.str (Stm.word s) :: ds) ∧ smallsD ds ∧ ds.length ≤ 1000 ∧ goodT s ds = false
namespace Bad
def enc : Bad → List PyData
  | .odd pre d post => encB true pre ++ d :: post
  | .rep pre n b post => encB true pre ++ .tuple [.str "repeat", .int n, .list b.enc] :: post
/-- the path of the wrong statement -/
def path (p : List Int) : Bad → List Int
  | .odd pre _ _ => p ++ [(pre.length : Int)]
  | .rep pre _ b _ => b.path (p ++ [(pre.length : Int)] ++ [0])
def pre : Bad → List Stm
  | .odd pre _ _ => pre
  | .rep pre _ _ _ => pre
/-- the statement that is wrong or holds the wrong one -/
def at_ : Bad → PyData
  | .odd _ d _ => d
  | .rep _ n b _ => .tuple [.str "repeat", .int n, .list b.enc]
def post : Bad → List PyData
  | .odd _ _ post => post
  | .rep _ _ _ post => post
/-- how deep what is looked at goes -/
def deep : Bad → Nat
  | .odd pre _ _ => dB pre
  | .rep pre _ b _ => max (dB pre) (b.deep + 1)
def ok : Bad → Prop
  | .odd pre d _ => wB pre = true ∧ BadS d
  | .rep pre n b _ => wB pre = true ∧ (0 ≤ n ∧ n ≤ 3) ∧ b.ok
theorem enc_eq (b : Bad) : b.enc = encB true b.pre ++ b.at_ :: b.post := by cases b <;> rfl
theorem ok_pre {b : Bad} (h : b.ok) : wB b.pre = true := by cases b <;> exact h.1
theorem deep_pre (b : Bad) : dB b.pre ≤ b.deep := by
  cases b with
  | odd => exact Nat.le_refl _
  | rep => exact Nat.le_max_left _ _
end Bad
theorem sel_body {s : Stm} (f : List Stm → PyData) : sel98 s (s.flats ++ s.bodies.map f) = s.bodies.map f := bodies_sel s f
theorem goodT_stm {s : Stm} (fl : Bool) (h : wl s = true) : goodT s (s.flats ++ s.bodies.map fun b => seqD fl (encB fl b)) = true := by
  have g : ∀ b : List Stm, goodI 98 (seqD fl (encB fl b)) = true := fun b => by cases fl <;> rfl
  unfold goodT
  rw [items_len, decide_eq_true rfl, Bool.true_and]
  cases s <;> simp only [wl, Bool.and_eq_true] at h <;> simp only [Stm.signs, Stm.flats, Stm.bodies, List.map_cons, List.map_nil, List.cons_append, List.nil_append, List.zipWith_cons_cons, List.zipWith_nil_left, List.all_cons, List.all_nil, id, Bool.and_true, Bool.and_eq_true, g]
  · exact And.intro h.1 h.2
  · exact And.intro h.1 h.2
  · exact And.intro h.1 h.2
  · exact h
  · exact h
  · exact And.intro h.1 h.2
  · exact And.intro h.1 h.2
  · show (decide _ && decide _) = true
    rw [h.1, h.2]
    rfl
theorem smalls_stm {s : Stm} (fl : Bool) (h : wl s = true) : smallsD (s.flats ++ s.bodies.map fun b => seqD fl (encB fl b)) := by
  have g : ∀ b : List Stm, smallD (seqD fl (encB fl b)) = true := fun b => by cases fl <;> rfl
  have z : ∀ {v : Str}, isWord v = true → smallD (.str v) = true := fun {v} hv => by
    show decide (v.length ≤ 1000) = true
    have := isWord_len hv
    exact decide_eq_true (by omega)
  intro d hd
  rcases List.mem_append.mp hd with hd | hd
  · cases s <;> simp only [wl, Bool.and_eq_true] at h <;> simp only [Stm.flats, List.mem_cons, List.not_mem_nil, or_false] at hd
    · rcases hd with rfl | rfl
      · exact z h.1
      · exact z h.2
    · rcases hd with rfl | rfl
      · exact z h.1
      · rfl
    · rcases hd with rfl | rfl
      · exact z h.1
      · exact z h.2
    · rw [hd]; exact z h
    · rw [hd]; rfl
    · rcases hd with rfl | rfl
      · exact z h.1
      · rfl
    · rcases hd with rfl | rfl
      · exact z h.1
      · exact z h.2
    · rw [hd]; rfl
  · obtain ⟨b, _, rfl⟩ := List.mem_map.mp hd
    exact g b
def spCheckG (K : PySem.W.Frag) (n : Nat) : Sp := fun vs H Q E => match vs with
  | [b, p] => ∃ (fl : Bool) (pth : List Int), Dp K H p (pathD pth) ∧ pth.length + 2 * n ≤ 1000 ∧
    ((∃ l : List Stm, Dp K H b (seqD fl (encB true l)) ∧ wB l = true ∧ dB l ≤ n ∧ ∀ H', Same H H' → Q .non H') ∨
     (∃ c : Bad, Dp K H b (seqD fl c.enc) ∧ c.ok ∧ c.deep ≤ n ∧ ∀ d H' v, H d = none → Same H H' → H' d = some (.xd [("path", v)]) → Dp K H' v (pathD (c.path pth)) → E (.ref (He.ga K "BadStatement")) (some d) H'))
  | _ => False
theorem ok_checkG (T : Top w K mg) {n : Nat} (ih : Cal P w K mg base (L2.CX P w) (n + 4) "check_body" (spCheckG K n)) : Cal P w K mg base (L2.CX P w) (n + 5) "check_body" (spCheckG K (n + 1)) := by
  refine cal_X (f_check_body T) (g_check_body T) sc_check_body (fun _ _ _ _ _ _ us hl => match us, hl with | [_, _], _ => rfl) (fun vs H Q E h => match vs, h with | [_, _], _ => rfl) (fun cdv A outer s H vs Q E hr h => ?_)
  match vs, h with
  | [b, p], h =>
  obtain ⟨fl, pth, hp, hlen, h⟩ := h
  refine ⟨_, (pss_one (ps_for (passes_of rfl) rfl (pi_enumA (by rfl) (z_enumerate T) (pa_cons (pv 0) pa_nil)) (pg_tup rfl (pgs_cons (pg_name (i := 2) sc_check_body.nd rfl (Or.inl rfl)) (pgs_cons (pg_name (i := 3) sc_check_body.nd rfl (Or.inl rfl)) pgs_nil)))
      (pss_cons (ps_set (i := 4) sc_check_body.nd rfl (Or.inl rfl) (pe_op op_catG (pv 1) (pe_tup (pa_cons (pv 2) pa_nil))))
    (pss_cons (ps_if (pt_not (pt_val (pc (cg_is_statement T) hr (pa_cons (pv 3) pa_nil))))
      (pss_one (ps_raiseX (takes_of rfl rfl rfl rfl) (c_BadStatement_init T) hr (pa_cons (pv 4) pa_nil)))
      pss_nil)
    (pss_one (ps_for (passes_of rfl) rfl (pi_enumA (by rfl) (z_enumerate T) (pa_cons (pc (cg_bodies_of T) hr (pa_cons (pv 3) pa_nil)) pa_nil)) (pg_tup rfl (pgs_cons (pg_name (i := 5) sc_check_body.nd rfl (Or.inl rfl)) (pgs_cons (pg_name (i := 6) sc_check_body.nd rfl (Or.inl rfl)) pgs_nil)))
      (pss_one (ps_expr (pcX (takes_of rfl rfl rfl rfl) ih hr (pa_cons (pv 6) (pa_cons (pe_op op_catG (pv 4) (pe_tup (pa_cons (pv 5) pa_nil))) pa_nil))))))))))), ?_⟩
  obtain ⟨pre, ds, hb, hw, hn, hk⟩ : ∃ (pre : List Stm) (ds : List PyData), Dp K H b (seqD fl ds) ∧ wB pre = true ∧ dB pre ≤ n + 1 ∧ ((ds = encB true pre ∧ ∀ H', Same H H' → Q .non H') ∨
      ∃ c : Bad, pre = c.pre ∧ ds = c.enc ∧ c.ok ∧ c.deep ≤ n + 1 ∧ ∀ d H' v, H d = none → Same H H' → H' d = some (.xd [("path", v)]) → Dp K H' v (pathD (c.path pth)) → E (.ref (He.ga K "BadStatement")) (some d) H') := by
    rcases h with ⟨l, h1, h2, h3, h4⟩ | ⟨c, h1, h2, h3, h4⟩
    · exact ⟨l, _, h1, h2, h3, .inl ⟨rfl, h4⟩⟩
    · exact ⟨c.pre, _, h1, Bad.ok_pre h2, Nat.le_trans c.deep_pre h3, .inr ⟨c, rfl, rfl, h2, h3, h4⟩⟩
  obtain ⟨a, xs, rfl, ha, hx⟩ := seqD_inv hb
  have lx := DpAll.len hx
  have lp : pre.length = ds.length ∨ pre.length < ds.length := by
    rcases hk with ⟨rfl, _⟩ | ⟨c, rfl, rfl, _⟩
    · exact .inl (by rw [encB_map, List.length_map])
    · exact .inr (by rw [c.enc_eq, List.length_append, encB_map, List.length_map, List.length_cons]; omega)
  have atp : ∀ {i : Nat} {d : PyData}, ds[i]? = some d → i < pre.length → ∃ st, pre[i]? = some st ∧ d = encS true st := by
    intro i d hd hi
    have e : (encB true pre)[i]? = some d := by
      rcases hk with ⟨rfl, _⟩ | ⟨c, rfl, rfl, _⟩
      · exact hd
      · rw [c.enc_eq, List.getElem?_append_left (by rw [encB_map, List.length_map]; exact hi)] at hd
        exact hd
    exact encB_get e
  refine ⟨_, rfl, ?_⟩
  refine enumA_of ha (Same.refl _) fun J wk => ?_
  refine for_it wk (fun i σ H' => i ≤ pre.length ∧ Same H H' ∧ ∃ v2 v3 v4 v5 v6, σ = [some (.ref a), some p, v2, v3, v4, v5, v6]) ⟨Nat.zero_le _, Same.refl H, _, _, _, _, _, rfl⟩ (fun _ _ _ _ h => h.2.1) ?_ ?_
  · rintro i x σ H1 H2 hi ⟨ip, s1, v2, v3, v4, v5, v6, rfl⟩ ⟨t, y, z, rfl, ht, rfl, hy, hz⟩
    obtain rfl : V.int (i : Nat) = y := Option.some.inj hy
    obtain ⟨d, hd1, hd2⟩ := DpAll.getV hx hz
    have s2 := smNew s1 ht (.tup [.int (i : Nat), z])
    refine ⟨t, _, rfl, SqT.of upd_same, rfl, _, _, rfl, _, _, rfl, rfl, ?_⟩
    obtain ⟨pa, rfl, hpa⟩ := path_inv (Dp.keep s2 hp)
    refine ⟨_, rfl, _, rfl, (by show 1 ≤ sizeLine; decide), fun p1 hp1 => ?_⟩
    have s3 := smNew s2 hp1 (.tup [.int (i : Nat)])
    refine path_snoc (smT (smNew1 hp1 _) hpa) (SqT.of upd_same) (Nat.le_of_lt (small1000 (by omega))) fun here H3 s3' hh => ?_
    have s4 : Same H H3 := s3.trans s3'
    by_cases hip : i < pre.length
    case neg =>
      have ie : i = pre.length := by omega
      obtain ⟨c, rfl, rfl, hc, hcd, q⟩ : ∃ c : Bad, pre = c.pre ∧ ds = c.enc ∧ c.ok ∧ c.deep ≤ n + 1 ∧ ∀ d H' v, H d = none → Same H H' → H' d = some (.xd [("path", v)]) → Dp K H' v (pathD (c.path pth)) → E (.ref (He.ga K "BadStatement")) (some d) H' := by
        rcases hk with ⟨rfl, _⟩ | h
        · have := (List.getElem?_eq_some_iff.mp hd1).1
          rw [encB_map, List.length_map] at this
          exact absurd this hip
        · exact h
      subst ie
      rw [c.enc_eq, List.getElem?_append_right (by rw [encB_map, List.length_map]; exact Nat.le_refl _)] at hd1
      have hd1' : c.at_ = d := by
        have e : c.pre.length - (encB true c.pre).length = 0 := by rw [encB_map, List.length_map]; omega
        rw [e] at hd1
        exact Option.some.inj hd1
      subst hd1'
      cases c with
      | odd pre d post =>
        have hd4 := Dp.keep s4 hd2
        have rais : ∀ H4, Same H3 H4 → ∀ {R : Prop}, ((∀ d H', H4 d = none → Same H4 H' → H' d = some (.xd [("path", here)]) → E (.ref (He.ga K "BadStatement")) (some d) H') → R) → R := fun H4 e4 R g => g fun d H' nd e hd => q d H' here ((s4.trans e4).free nd) ((s4.trans e4).trans e) hd (Dp.keep (e4.trans e) hh)
        rcases hc.2 with ho | ⟨s, dt, rfl, h1, h2, h3⟩
        · refine ⟨_, rfl, .inr ⟨d, hd4, ho, ⟨_, rfl, iteT ?_⟩⟩⟩
          exact rais H3 (Same.refl _) fun g => ⟨_, rfl, raise1 g⟩
        · refine ⟨_, rfl, .inl ⟨s, dt, hd4, h1, h2, fun H4 e4 => ?_⟩⟩
          rw [h3]
          exact ⟨_, rfl, iteT (rais H4 e4 fun g => ⟨_, rfl, raise1 g⟩)⟩
      | rep pre m c post =>
        have hd4 := Dp.keep s4 hd2
        have gt : goodT (.rep m []) [.int m, .list c.enc] = true := by
          show (decide (2 = 2) && ((decide (0 ≤ m) && decide (m ≤ 3)) && (true && true))) = true
          rw [decide_eq_true hc.2.1.1, decide_eq_true hc.2.1.2]
          rfl
        refine ⟨_, rfl, .inl ⟨.rep m [], _, hd4, fun d hd => by
          rcases List.mem_cons.mp hd with rfl | hd
          · rfl
          · rw [List.mem_singleton.mp hd]; rfl, by show 2 ≤ 1000; omega, fun H4 e4 => ?_⟩⟩
        rw [gt]
        refine ⟨_, rfl, iteF ?_⟩
        have s5 : Same H H4 := s4.trans e4
        refine ⟨_, rfl, .rep m [], _, Dp.keep e4 hd4, rfl, fun pb H5 ys e5 npb hpb hys => ?_⟩
        have hys1 : DpAll K H4 ys [.list c.enc] := hys
        obtain ⟨yv, yr, rfl, hy1, hy2⟩ := DpAll.cons_inv hys1
        obtain rfl := DpAll.nil_inv hy2
        refine enumA_of (.inl (SqL.of hpb)) (Same.refl _) fun J2 wk2 => ?_
        refine for_it wk2 (fun j σ H' => j = 0 ∧ Same H5 H' ∧ ∃ v5 v6, σ = [some (.ref a), some (.ref pa), some (.int (pre.length : Nat)), some z, some here, v5, v6]) ⟨rfl, Same.refl H5, _, _, rfl⟩ (fun _ _ _ _ h => h.2.1) ?_ ?_
        · rintro j x2 σ2 H6 H7 hj ⟨rfl, s6, w5, w6, rfl⟩ ⟨t2, y2, z2, rfl, ht2, rfl, hy2, hz2⟩
          obtain rfl : V.int (0 : Nat) = y2 := Option.some.inj hy2
          obtain rfl : yv = z2 := Option.some.inj hz2
          have s7 : Same H4 H6 := e5.trans s6
          have s8 := smNew s7 ht2 (.tup [.int (0 : Nat), yv])
          refine ⟨t2, _, rfl, SqT.of upd_same, rfl, _, _, rfl, _, _, rfl, rfl, ?_⟩
          obtain ⟨ha2, rfl, hha⟩ := path_inv (Dp.keep s8 (Dp.keep e4 hh))
          refine ⟨_, rfl, _, rfl, _, rfl, (by show 1 ≤ sizeLine; decide), fun p2 hp2 => ?_⟩
          refine path_snoc (smT (smNew1 hp2 _) hha) (SqT.of upd_same) (Nat.le_of_lt (small1000 (by rw [List.length_append]; show pth.length + 1 + 1 ≤ 1000; omega))) fun hv H8 s9 hhv => ?_
          have s10 : Same H4 H8 := (smNew s8 hp2 _).trans s9
          have cd : c.deep + 1 ≤ n + 1 := Nat.le_trans (Nat.le_max_right _ _) hcd
          refine ⟨true, _, hhv, by rw [List.length_append, List.length_append]; show pth.length + 1 + 1 + 2 * n ≤ 1000; omega, .inr ⟨c, Dp.keep s10 hy1, hc.2.2, by omega, fun d H' v nd e hd hv => ?_⟩⟩
          exact q d H' v ((s5.trans s10).free nd) ((s5.trans s10).trans e) hd hv
        · rintro σ2 H6 ⟨h0, _⟩
          cases h0
    obtain ⟨st, hst, rfl⟩ := atp hd1 hip
    have hm : st ∈ pre := List.mem_of_getElem? hst
    have hws := wB_all hw st hm
    have hl := wl_of hws
    have hd4 := Dp.keep s4 hd2
    rw [encS_eq] at hd4
    refine ⟨_, rfl, .inl ⟨st, _, hd4, smalls_stm true hl, by rw [items_len]; cases st <;> (show _ ≤ 1000; simp [Stm.signs]), fun H4 e4 => ?_⟩⟩
    rw [goodT_stm true hl]
    refine ⟨_, rfl, iteF ?_⟩
    have s5 : Same H H4 := s4.trans e4
    refine ⟨_, rfl, st, _, Dp.keep e4 hd4, items_len _ _, fun pb H5 ys e5 npb hpb hys => ?_⟩
    rw [sel_body] at hys
    refine enumA_of (.inl (SqL.of hpb)) (Same.refl _) fun J2 wk2 => ?_
    refine for_it wk2 (fun j σ H' => Same H5 H' ∧ ∃ v5 v6, σ = [some (.ref a), some (.ref pa), some (.int (i : Nat)), some z, some here, v5, v6]) ⟨Same.refl H5, _, _, rfl⟩ (fun _ _ _ _ h => h.1) ?_ ?_
    · rintro j x2 σ2 H6 H7 hj ⟨s6, w5, w6, rfl⟩ ⟨t2, y2, z2, rfl, ht2, rfl, hy2, hz2⟩
      obtain rfl : V.int (j : Nat) = y2 := Option.some.inj hy2
      obtain ⟨d2, hd3, hd4'⟩ := DpAll.getV hys hz2
      rw [List.getElem?_map] at hd3
      obtain ⟨bd, hbd, rfl⟩ := Option.map_eq_some_iff.mp hd3
      have hmb : bd ∈ st.bodies := List.mem_of_getElem? hbd
      have s7 : Same H4 H6 := e5.trans s6
      have s8 := smNew s7 ht2 (.tup [.int (j : Nat), z2])
      refine ⟨t2, _, rfl, SqT.of upd_same, rfl, _, _, rfl, _, _, rfl, rfl, ?_⟩
      obtain ⟨ha2, rfl, hha⟩ := path_inv (Dp.keep s8 (Dp.keep e4 hh))
      refine ⟨_, rfl, _, rfl, _, rfl, (by show 1 ≤ sizeLine; decide), fun p2 hp2 => ?_⟩
      refine path_snoc (smT (smNew1 hp2 _) hha) (SqT.of upd_same) (Nat.le_of_lt (small1000 (by rw [List.length_append]; show pth.length + 1 + 1 ≤ 1000; omega))) fun hv H8 s9 hhv => ?_
      have s10 : Same H4 H8 := (smNew s8 hp2 _).trans s9
      have d1 := dB_mem hm
      have d2' := dS_mem hmb
      refine ⟨true, _, hhv, by rw [List.length_append, List.length_append]; show pth.length + 1 + 1 + 2 * n ≤ 1000; omega, .inl ⟨bd, Dp.keep s10 hd4', wB_of hws bd hmb, by omega, fun H9 e9 => ?_⟩⟩
      refine ⟨fun b o z => e9 _ _ ((smNew (smNew s6 ht2 _) hp2 _).trans s9 b o z), _, _, rfl⟩
    · rintro σ2 H6 ⟨s6, w5, w6, rfl⟩
      exact ⟨hip, s5.trans (e5.trans s6), _, _, _, _, _, rfl⟩
  · rintro σ H1 ⟨ip, s1, v2, v3, v4, v5, v6, rfl⟩
    rcases hk with ⟨_, q⟩ | ⟨c, rfl, rfl, _⟩
    · exact q H1 s1
    · rw [c.enc_eq, List.length_append, encB_map, List.length_map, List.length_cons] at lx
      omega
theorem c_checkG (T : Top w K mg) : ∀ n, Cal P w K mg base (L2.CX P w) (n + 4) "check_body" (spCheckG K n)
  | 0 => calX_never (f_check_body T) (g_check_body T) (ps := ["body", "path"]) (fun _ _ _ _ _ _ us hl => match us, hl with | [_, _], _ => rfl) fun vs H Q E h => by
      match vs, h with
      | [b, p], h =>
      obtain ⟨fl, pth, _, _, h⟩ := h
      rcases h with ⟨l, _, _, hn, _⟩ | ⟨c, _, _, hn, _⟩
      · have := dB_one l
        omega
      · have := dB_one c.pre
        have := c.deep_pre
        omega
  | n + 1 => ok_checkG T (c_checkG T n)
end
end RM

set_option Elab.async false
set_option linter.all false
set_option maxRecDepth 100000
set_option maxHeartbeats 2000000
namespace RM
open PySem PySem.Spec PyProof.Rows L2
section
variable {P : Program} {w : World} {K : PySem.W.Frag} {mg : Str → Option Value} {base : Heap}
/-! ### _law_wrong -/
theorem word_signs {s t : Stm} (h : s.word = t.word) : s.signs = t.signs := by
  cases s <;> cases t <;> first | rfl | exact absurd h (by simp only [Stm.word]; decide +kernel)
/-- the lists and tuples of some items -/
def inner (ds : List PyData) : List PyData := ds.filterMap fun d => if goodI 98 d = true then some d else none
theorem inner_range (ds : List PyData) : (List.range ds.length).filterMap (fun i => (ds[i]?).bind fun d => if goodI 98 d = true then some d else none) = inner ds := by
  have e := congrArg (List.filterMap fun d => if goodI 98 d = true then some d else none) (some_range ds)
  rw [List.filterMap_filterMap] at e
  exact e
theorem inner_stm (s : Stm) : inner (s.flats ++ s.bodies.map fun b => seqD true (encB true b)) = s.bodies.map fun b => seqD true (encB true b) := by cases s <;> rfl
theorem good_not {s : Stm} (fl : Bool) (h : wl s = true) : ¬ BadS (encS fl s) := by
  rw [encS_eq]
  rintro (ho | ⟨s2, ds, e, _, _, hg⟩)
  · have key : ∀ d, Odd d → d = .tuple (.str s.word :: (s.flats ++ s.bodies.map fun b => seqD fl (encB fl b))) → False := by
      intro d ho e
      cases ho with
      | loop ds =>
        injection e with e
        injection e with e1 e2
        injection e1 with e1
        cases s <;> exact absurd e1 (by simp only [Stm.word]; decide +kernel)
      | nil => injection e with e; cases e
      | _ => cases e
    exact key _ ho rfl
  · injection e with e
    injection e with e1 e2
    injection e1 with e1
    have ew : s.signs = s2.signs := word_signs e1
    have := goodT_stm fl h
    unfold goodT at this hg
    rw [← e2, ← ew, this] at hg
    cases hg
theorem rep_good {m : Int} (h : 0 ≤ m ∧ m ≤ 3) (l : List PyData) : goodT (.rep m []) [.int m, .list l] = true := by
  show (decide (2 = 2) && ((decide (0 ≤ m) && decide (m ≤ 3)) && (true && true))) = true
  rw [decide_eq_true h.1, decide_eq_true h.2]
  rfl
theorem rep_smalls (m : Int) (l : List PyData) : smallsD [.int m, .list l] := fun d hd => by
  rcases List.mem_cons.mp hd with rfl | hd
  · rfl
  · rw [List.mem_singleton.mp hd]; rfl
theorem rep_not {m : Int} {l : List PyData} (h : 0 ≤ m ∧ m ≤ 3) : ¬ BadS (.tuple [.str "repeat", .int m, .list l]) := by
  rintro (ho | ⟨s2, ds, e, _, _, hg⟩)
  · have key : ∀ d, Odd d → d = .tuple [.str "repeat", .int m, .list l] → False := by
      intro d ho e
      cases ho with
      | loop ds =>
        injection e with e
        injection e with e1 e2
        injection e1 with e1
        exact absurd e1 (by decide +kernel)
      | nil => injection e with e; cases e
      | _ => cases e
    exact key _ ho rfl
  · injection e with e
    injection e with e1 e2
    injection e1 with e1
    have ew : (Stm.rep m []).signs = s2.signs := word_signs e1
    have := rep_good h l
    unfold goodT at this hg
    rw [← e2, ← ew, this] at hg
    cases hg
def Bad.small : Bad → Prop
  | .odd pre _ post => cB pre + post.length ≤ 999
  | .rep pre _ b post => cB pre + post.length ≤ 999 ∧ b.small
theorem Bad.small1 {c : Bad} (h : c.small) : cB c.pre + c.post.length ≤ 999 := by
  cases c with
  | odd => exact h
  | rep => exact h.1
def spWrong (K : PySem.W.Frag) (n : Nat) : Sp := fun vs H Q _ => match vs with
  | [b, p] => ∃ (fl : Bool) (pth : List Int), Dp K H p (pathD pth) ∧ pth.length + 2 * n ≤ 1000 ∧
    ((∃ l : List Stm, Dp K H b (seqD fl (encB true l)) ∧ wB l = true ∧ dB l ≤ n ∧ cB l ≤ 1000 ∧ ∀ H', Same H H' → Q .non H') ∨
     (∃ c : Bad, Dp K H b (seqD fl c.enc) ∧ c.ok ∧ c.deep ≤ n ∧ c.small ∧ ∀ v H', Same H H' → Dp K H' v (pathD (c.path pth)) → Q v H'))
  | _ => False
theorem sc_law_wrong : FnScope ["_law_body_here", "_law_path", "_law_k", "_law_one", "_law_inner", "_law_j", "_law_wrong_here", "_law_part"] ["_law_body_here", "_law_path"] (defScope s_law_wrong) := ⟨rfl, rfl, rfl, by decide +kernel, rfl, by decide +kernel, by decide +kernel⟩
theorem ok_wrong (T : Top w K mg) {n : Nat} (ih : Cal P w K mg base CX0 (n + 4) "_law_wrong" (spWrong K n)) : Cal P w K mg base CX0 (n + 5) "_law_wrong" (spWrong K (n + 1)) := by
  refine cal_0 (f_law_wrong T) (g_law_wrong T) sc_law_wrong (fun _ _ _ _ _ _ us hl => match us, hl with | [_, _], _ => rfl) (fun vs H Q E h => match vs, h with | [_, _], _ => rfl) (fun cdv A outer s H vs Q E hr h => ?_)
  match vs, h with
  | [b, p], h =>
  obtain ⟨fl, pth, hp, hlen, h⟩ := h
  refine ⟨_, (pss_cons (ps_for PassesOwn.never rfl (pi_range1 rfl (z_range T) (pa_cons (pcb (z_len T) call_len_seq boot_len (pa_cons (pv 0) pa_nil)) pa_nil)) (pg_name (i := 2) sc_law_wrong.nd rfl (Or.inl rfl))
      (pss_cons (ps_set (i := 3) sc_law_wrong.nd rfl (Or.inl rfl) (pe_ix ix_any (pv 0) (pv 2) (fun _ _ => rfl)))
    (pss_cons (ps_if (pt_not (pt_val (pc (c_law_good T) hr (pa_cons (pv 3) pa_nil))))
      (pss_one (ps_ret (pe_op op_catG (pv 1) (pe_tup (pa_cons (pv 2) pa_nil)))))
      pss_nil)
    (pss_cons (ps_setLc (i := 4) (own := [("_law_part", 7)]) rfl sc_law_wrong.nd rfl rfl (sw_true rfl rfl rfl (by decide +kernel)) (pi_seqA (pe_slice sl_tup (pv 3) (po_some pe_int) po_none)) (blkOk_by (own := [("_law_part", 7)]) (N := ["_law_body_here", "_law_path", "_law_k", "_law_one", "_law_inner", "_law_j", "_law_wrong_here", "_law_part"]) (sc := defScope s_law_wrong) (by decide +kernel)) (fun _ _ _ _ _ => (pg_name (i := 7) sc_law_wrong.nd rfl (Or.inl rfl) (Or.inr rfl))) (fun _ _ _ _ _ => (pts_one (pt_val (pcb (z_isinstance T) (call_isiT' (K := K) rfl) boot_isinstance (pa_cons (pv 7) (pa_cons (pe_tup (pa_cons (pty (z_list T) boot_list) (pa_cons (pty (z_tuple T) boot_tuple) pa_nil))) pa_nil)))))) (fun _ _ _ _ _ => (pv 7)))
    (pss_one (ps_for PassesOwn.never rfl (pi_range1 rfl (z_range T) (pa_cons (pcb (z_len T) call_len_seq boot_len (pa_cons (pv 4) pa_nil)) pa_nil)) (pg_name (i := 5) sc_law_wrong.nd rfl (Or.inl rfl))
      (pss_cons (ps_set (i := 6) sc_law_wrong.nd rfl (Or.inl rfl) (pc ih hr (pa_cons (pe_ix ix_list (pv 4) (pv 5) (fun _ _ => rfl)) (pa_cons (pe_op op_catG (pv 1) (pe_tup (pa_cons (pv 2) (pa_cons (pv 5) pa_nil)))) pa_nil))))
    (pss_one (ps_if (pt_cmp (pc_notN (pv 6)) rfl)
      (pss_one (ps_ret (pv 6)))
      pss_nil)))))))))
    (pss_one (ps_ret pe_non))), ?_⟩
  obtain ⟨pre, ds, hb, hw, hn, hc, hl, hk⟩ : ∃ (pre : List Stm) (ds : List PyData), Dp K H b (seqD fl ds) ∧ wB pre = true ∧ dB pre ≤ n + 1 ∧ cB pre ≤ 1000 ∧ ds.length ≤ 1000 ∧ ((ds = encB true pre ∧ ∀ H', Same H H' → Q .non H') ∨
      ∃ c : Bad, pre = c.pre ∧ ds = c.enc ∧ c.ok ∧ c.deep ≤ n + 1 ∧ c.small ∧ ∀ v H', Same H H' → Dp K H' v (pathD (c.path pth)) → Q v H') := by
    rcases h with ⟨l, h1, h2, h3, h5, h4⟩ | ⟨c, h1, h2, h3, h5, h4⟩
    · have := cB_len l
      exact ⟨l, _, h1, h2, h3, h5, by rw [encB_map, List.length_map]; omega, .inl ⟨rfl, h4⟩⟩
    · have := c.small1 h5
      have := cB_len c.pre
      exact ⟨c.pre, _, h1, Bad.ok_pre h2, Nat.le_trans c.deep_pre h3, by omega, by rw [c.enc_eq, List.length_append, List.length_cons, encB_map, List.length_map]; omega, .inr ⟨c, rfl, rfl, h2, h3, h5, h4⟩⟩
  obtain ⟨a, xs, rfl, ha, hx⟩ := seqD_inv hb
  have lx := DpAll.len hx
  have atp : ∀ {i : Nat} {d : PyData}, ds[i]? = some d → i < pre.length → ∃ st, pre[i]? = some st ∧ d = encS true st := by
    intro i d hd hi
    have e : (encB true pre)[i]? = some d := by
      rcases hk with ⟨rfl, _⟩ | ⟨c, rfl, rfl, _⟩
      · exact hd
      · rw [c.enc_eq, List.getElem?_append_left (by rw [encB_map, List.length_map]; exact hi)] at hd
        exact hd
    exact encB_get e
  refine ⟨_, rfl, a, xs, rfl, ha, _, rfl, by omega, by omega, ?_⟩
  refine for_it (walk_range (lo := 0) (n := xs.length)) (fun i σ H' => i ≤ pre.length ∧ Same H H' ∧ ∃ v2 v3 v4 v5 v6 v7, σ = [some (.ref a), some p, v2, v3, v4, v5, v6, v7]) ⟨Nat.zero_le _, Same.refl H, _, _, _, _, _, _, rfl⟩ (fun _ _ _ _ _ => trivial) ?_ ?_
  · rintro i x σ H1 H2 hi ⟨ip, s1, v2, v3, v4, v5, v6, v7, rfl⟩ ⟨rfl, rfl⟩
    obtain ⟨d, hd1⟩ : ∃ d, ds[i]? = some d := ⟨ds[i]'(by omega), by simp⟩
    obtain ⟨z, hz, hd2⟩ := DpAll.get hx hd1
    have at1 : atI xs (0 + (i : Int)) = some z := by
      rw [Int.zero_add]
      exact atI_nat hz
    have ha1 : SqL K H2 a xs ∨ SqT K H2 a xs := ha.elim (fun h => .inl (s1.seq h)) fun h => .inr (smT s1 h)
    refine ⟨_, rfl, _, rfl, a, xs, _, z, rfl, rfl, ha1, at1, ?_⟩
    -- an odd one
    by_cases hodd : BadS d
    case pos =>
      obtain ⟨q, ie⟩ : (∀ v H', Same H H' → Dp K H' v (pathD (pth ++ [(i : Int)])) → Q v H') ∧ i = pre.length := by
        by_cases hip : i < pre.length
        · obtain ⟨st, hst, rfl⟩ := atp hd1 hip
          have hws := wl_of (wB_all hw st (List.mem_of_getElem? hst))
          exact absurd hodd (good_not true hws)
        · have ie : i = pre.length := by omega
          rcases hk with ⟨rfl, _⟩ | ⟨c, rfl, rfl, hc1, _, _, q⟩
          · have := (List.getElem?_eq_some_iff.mp hd1).1
            rw [encB_map, List.length_map] at this
            exact absurd this hip
          · rw [ie, c.enc_eq, List.getElem?_append_right (by rw [encB_map, List.length_map]; exact Nat.le_refl _)] at hd1
            have e0 : c.pre.length - (encB true c.pre).length = 0 := by rw [encB_map, List.length_map]; omega
            rw [e0] at hd1
            obtain rfl := Option.some.inj hd1
            cases c with
            | odd pre d post => exact ⟨fun v H' s' hv => q v H' s' (by rw [ie] at hv; exact hv), ie⟩
            | rep pre m c post => exact absurd hodd (rep_not hc1.2.1)
      obtain ⟨pa, rfl, hpa⟩ := path_inv hp
      have fin : ∀ H4, Same H2 H4 → (1 : Nat) ≤ sizeLine ∧ ∀ p1, H4 p1 = none → CatG K (.ref pa) (.ref p1) (upd H4 p1 (.tup [.int (0 + (i : Nat) : Int)])) Q := fun H4 e4 => ⟨by decide, fun p1 hp1 => by
        have s3 := smNew1 hp1 (.tup [.int (0 + (i : Nat) : Int)])
        refine path_snoc (smT (s1.trans (e4.trans s3)) hpa) (by rw [Int.zero_add]; exact SqT.of upd_same) (Nat.le_of_lt (small1000 (by omega))) fun here H5 s5 hh => q _ _ (s1.trans (e4.trans (s3.trans s5))) hh⟩
      rcases hodd with ho | ⟨s, dt, rfl, h1, h2, h3⟩
      · exact ⟨_, rfl, .inr ⟨d, Dp.keep s1 hd2, ho, fun H4 e4 => ⟨_, rfl, ifT rfl ⟨_, rfl, _, rfl, fin H4 e4⟩⟩⟩⟩
      · refine ⟨_, rfl, .inl ⟨s, dt, Dp.keep s1 hd2, h1, h2, fun H4 e4 => ?_⟩⟩
        rw [h3]
        exact ⟨_, rfl, ifT rfl ⟨_, rfl, _, rfl, fin H4 e4⟩⟩
    -- a good one, or the repeat that holds the wrong one
    obtain ⟨s, ds1, rfl, hsm, hle, gT, hin⟩ : ∃ (s : Stm) (ds1 : List PyData), d = .tuple (.str s.word :: ds1) ∧ smallsD ds1 ∧ ds1.length ≤ 4 ∧ goodT s ds1 = true ∧
        ((∃ st, i < pre.length ∧ pre[i]? = some st ∧ inner ds1 = st.bodies.map fun b => seqD true (encB true b)) ∨
         (∃ c : Bad, i = pre.length ∧ inner ds1 = [.list c.enc] ∧ c.ok ∧ c.deep ≤ n ∧ c.small ∧ ∀ v H', Same H H' → Dp K H' v (pathD (c.path (pth ++ [(i : Int)] ++ [0]))) → Q v H')) := by
      by_cases hip : i < pre.length
      · obtain ⟨st, hst, rfl⟩ := atp hd1 hip
        have hws := wl_of (wB_all hw st (List.mem_of_getElem? hst))
        exact ⟨st, _, encS_eq true st, smalls_stm true hws, by rw [items_len]; cases st <;> (show _ ≤ 4; simp [Stm.signs]), goodT_stm true hws, .inl ⟨st, hip, hst, inner_stm st⟩⟩
      · have ie : i = pre.length := by omega
        rcases hk with ⟨rfl, _⟩ | ⟨c, rfl, rfl, hc1, hc2, hc3, q⟩
        · have := (List.getElem?_eq_some_iff.mp hd1).1
          rw [encB_map, List.length_map] at this
          exact absurd this hip
        · rw [ie, c.enc_eq, List.getElem?_append_right (by rw [encB_map, List.length_map]; exact Nat.le_refl _)] at hd1
          have e0 : c.pre.length - (encB true c.pre).length = 0 := by rw [encB_map, List.length_map]; omega
          rw [e0] at hd1
          obtain rfl := Option.some.inj hd1
          cases c with
          | odd pre d post => exact absurd hc1.2 hodd
          | rep pre m c post =>
            have cd : c.deep + 1 ≤ n + 1 := Nat.le_trans (Nat.le_max_right _ _) hc2
            exact ⟨.rep m [], _, rfl, rep_smalls m c.enc, by show 2 ≤ 4; omega, rep_good hc1.2.1 c.enc, .inr ⟨c, ie, rfl, hc1.2.2, by omega, hc3.2, fun v H' s' hv => q v H' s' (by rw [ie] at hv; exact hv)⟩⟩
    refine ⟨_, rfl, .inl ⟨s, ds1, Dp.keep s1 hd2, hsm, by omega, fun H4 e4 => ?_⟩⟩
    rw [gT]
    refine ⟨_, rfl, ifF rfl ?_⟩
    have s4 : Same H H4 := s1.trans e4
    obtain ⟨sa, sxs0, rfl, hsa, hsx0⟩ := Dp.tup_inv (Dp.keep s4 hd2)
    obtain ⟨v0, sxs, rfl, h1, hsx⟩ := DpAll.cons_inv hsx0
    refine ⟨_, rfl, _, rfl, _, _, rfl, hsa, cut_not, fun p1 hp1 => ?_⟩
    rw [cut_tail]
    have s5 := smNew1 hp1 (.tup sxs)
    refine seqA_of (.inr (SqT.of upd_same)) (Same.refl _) fun J2 wk2 => ?_
    intro D nD
    have lsx := DpAll.len hsx
    refine lc_opt wk2 (fun (d : PyData) y _ => Dp K H4 y d) (fun i => (ds1[i]?).bind fun d => if goodI 98 d = true then some d else none) nD (small1000 (by omega)) (fun H' e => e) (fun _ _ _ _ h _ => h) (fun _ _ _ _ _ h _ => h) ?_ ?_
    · rintro j y H6 H7 N hj e ⟨rfl, hy⟩ hk2 hno
      obtain ⟨d, hd3, hd4⟩ := DpAll.getV hsx hy
      refine ⟨rfl, ?_⟩
      refine ⟨_, rfl, (by show 2 ≤ sizeLine; decide), fun p2 hp2 => ?_⟩
      have s6 := smNew1 hp2 (.tup [.ty "list", .ty "tuple"])
      obtain ⟨ty, ht, hk3⟩ := ty_any (Dp.keep (s5.trans (e.trans s6)) hd4)
      refine ⟨_, p2, _, ty, _, _, rfl, upd_same, .cons (.ty _) (.cons (.ty _) .nil), ht, hk3, _, rfl, ?_⟩
      by_cases g : goodI 98 d = true
      · rw [g]
        exact ifT rfl ⟨_, rfl, hk2 _ _ d (by rw [hd3]; show (if goodI 98 d = true then some d else none) = some d; rw [if_pos g]) s6 hd4⟩
      · have g' : goodI 98 d = false := by simpa using g
        rw [g']
        exact ifF rfl (hno (by rw [hd3]; show (if goodI 98 d = true then some d else none) = none; rw [if_neg g]) _ s6)
    intro H6 ys e6 hD hp'
    rw [lsx, inner_range] at hp'
    have hys := paired_dp hp'
    have s7 : Same H4 H6 := s5.trans e6
    have lys : ys.length ≤ 4 := by
      have e := DpAll.len hys
      have : (inner ds1).length ≤ ds1.length := List.length_filterMap_le ..
      omega
    refine ⟨_, rfl, D, ys, rfl, .inl (SqL.of hD), _, rfl, by omega, by omega, ?_⟩
    refine for_it (walk_range (lo := 0) (n := ys.length)) (fun j σ H' => Same H6 H' ∧ (i = pre.length → j = 0) ∧ ∃ w5 w6 w7, σ = [some (.ref a), some p, some (.int (0 + (i : Nat) : Int)), some (.ref sa), some (.ref D), w5, w6, w7]) ⟨Same.refl _, fun _ => rfl, _, _, _, rfl⟩ (fun _ _ _ _ _ => trivial) ?_ ?_
    · rintro j x2 σ2 H8 H9 hj ⟨s8, hj0, w5, w6, w7, rfl⟩ ⟨rfl, rfl⟩
      obtain ⟨y, hy⟩ : ∃ y, ys[j]? = some y := ⟨ys[j]'(by omega), by simp⟩
      obtain ⟨dy, hdy, hdp⟩ := DpAll.getV hys hy
      have at2 : atI ys (0 + (j : Int)) = some y := by
        rw [Int.zero_add]
        exact atI_nat hy
      have s9 : Same H4 H9 := s7.trans s8
      obtain ⟨pa, rfl, hpa⟩ := path_inv (Dp.keep (s4.trans s9) hp)
      refine ⟨_, rfl, _, rfl, D, ys, _, y, rfl, rfl, s8.seq (SqL.of hD), at2, ?_⟩
      refine ⟨_, rfl, _, rfl, _, rfl, (by show 2 ≤ sizeLine; decide), fun t ht => ?_⟩
      have t1 := smNew1 ht (.tup [.int (0 + (i : Nat) : Int), .int (0 + (j : Nat) : Int)])
      refine catA_of (smT t1 hpa) (SqT.of upd_same) (Nat.le_of_lt (small1000 (by rw [List.length_map]; show pth.length + 2 ≤ 1000; omega))) fun hv H10 s10 hh => ?_
      have s11 : Same H4 H10 := s9.trans (t1.trans s10)
      have hh2 : Dp K H10 (.ref hv) (pathD (pth ++ [(i : Int)] ++ [(j : Int)])) := by
        refine path_dp ?_
        rw [List.map_append, List.map_append, List.append_assoc]
        have hh' : SqT K H10 hv (pth.map V.int ++ [V.int (0 + (i : Nat) : Int), V.int (0 + (j : Nat) : Int)]) := hh
        rw [Int.zero_add, Int.zero_add] at hh'
        exact hh'
      have pl : (pth ++ [(i : Int)] ++ [(j : Int)]).length + 2 * n ≤ 1000 := by rw [List.length_append, List.length_append]; show pth.length + 1 + 1 + 2 * n ≤ 1000; omega
      rcases hin with ⟨st, hip, hst, hin⟩ | ⟨c, ie, hin, hc1, hc2, hc3, q⟩
      · rw [hin, List.getElem?_map] at hdy
        obtain ⟨bd, hbd, rfl⟩ := Option.map_eq_some_iff.mp hdy
        have hmb : bd ∈ st.bodies := List.mem_of_getElem? hbd
        have hm : st ∈ pre := List.mem_of_getElem? hst
        have d1 := dB_mem hm
        have d2 := dS_mem hmb
        have c1 := cB_mem hm
        have c2 := cS_mem hmb
        refine ⟨true, _, hh2, pl, .inl ⟨bd, Dp.keep s11 hdp, wB_of (wB_all hw st hm) bd hmb, by omega, by omega, fun H12 e12 => ?_⟩⟩
        refine ⟨_, rfl, _, rfl, ifF rfl ?_⟩
        exact ⟨s8.trans (t1.trans (s10.trans e12)), fun h => by omega, _, _, _, rfl⟩
      · have j0 := hj0 ie
        subst j0
        rw [hin] at hdy
        obtain rfl := Option.some.inj hdy
        refine ⟨true, _, hh2, pl, .inr ⟨c, Dp.keep s11 hdp, hc1, hc2, hc3, fun v H12 e12 hv => ?_⟩⟩
        obtain ⟨pb, rfl, _⟩ := path_inv hv
        refine ⟨_, rfl, _, rfl, ifT rfl ?_⟩
        exact ⟨_, rfl, q _ _ ((s4.trans s11).trans e12) hv⟩
    · rintro σ2 H8 ⟨s8, hj0, w5, w6, w7, rfl⟩
      rcases hin with ⟨st, hip, hst, hin⟩ | ⟨c, ie, hin, hc1, hc2, hc3, q⟩
      · exact ⟨hip, s4.trans (s7.trans s8), _, _, _, _, _, _, rfl⟩
      · have := hj0 ie
        have e := DpAll.len hys
        rw [hin] at e
        simp at e
        omega
  · rintro σ H1 ⟨ip, s1, v2, v3, v4, v5, v6, v7, rfl⟩
    rcases hk with ⟨_, q⟩ | ⟨c, rfl, rfl, _⟩
    · exact q H1 s1
    · rw [c.enc_eq, List.length_append, encB_map, List.length_map, List.length_cons] at lx
      omega
theorem c_law_wrong (T : Top w K mg) : ∀ n, Cal P w K mg base CX0 (n + 4) "_law_wrong" (spWrong K n)
  | 0 => cal_never (f_law_wrong T) (g_law_wrong T) (ps := ["_law_body_here", "_law_path"]) (fun _ _ _ _ _ _ us hl => match us, hl with | [_, _], _ => rfl) fun vs H Q E h => by
      match vs, h with
      | [b, p], h =>
      obtain ⟨fl, pth, _, _, h⟩ := h
      rcases h with ⟨l, _, _, hn, _⟩ | ⟨c, _, _, hn, _⟩
      · have := dB_one l
        omega
      · have := dB_one c.pre
        have := c.deep_pre
        omega
  | n + 1 => ok_wrong T (c_law_wrong T n)
end
end RM

set_option Elab.async false
set_option linter.all false
set_option maxRecDepth 100000
set_option maxHeartbeats 4000000
namespace RM
open PySem PySem.Spec PyProof.Rows L2
theorem DpAll.take {K : PySem.W.Frag} {H : Hp} : ∀ {xs : List V} {ds : List PyData} (m : Nat), DpAll K H xs ds → DpAll K H (xs.take m) (ds.take m)
  | _, _, 0, _ => by rw [List.take_zero, List.take_zero]; exact .nil
  | [], _, m + 1, h => by cases h; exact .nil
  | x :: xs, _, m + 1, h => by
    cases h with
    | cons h t =>
      rw [List.take_succ_cons, List.take_succ_cons]
      exact .cons h (DpAll.take m t)
theorem encB_take (fl : Bool) (l : List Stm) (m : Nat) : encB fl (l.take m) = (encB fl l).take m := by rw [encB_map, encB_map, List.map_take]
theorem dB_le : ∀ {l : List Stm} {m : Nat}, dB (l.take m) ≤ dB l
  | l, 0 => by rw [List.take_zero]; exact dB_one l
  | [], m + 1 => by rw [List.take_nil]; exact Nat.le_refl _
  | s :: r, m + 1 => by
    rw [List.take_succ_cons, dB, dB]
    have := dB_le (l := r) (m := m)
    omega
theorem wB_take {l : List Stm} (h : wB l = true) (m : Nat) : wB (l.take m) = true := by
  rw [← List.take_append_drop m l, wB_app, Bool.and_eq_true] at h
  exact h.1
theorem kB_take {ks : List Str} {l : List Stm} (h : kB ks l = true) (m : Nat) : kB ks (l.take m) = true := by
  rw [← List.take_append_drop m l, kB_app, Bool.and_eq_true] at h
  exact h.1
section
variable {P : Program} {w : World} {K : PySem.W.Frag} {mg : Str → Option Value} {base : Heap}
/-! ### _law_short -/
def spShort (K : PySem.W.Frag) : Sp := fun vs H Q _ => match vs with
  | [b] => ∃ (a : Addr) (xs : List V) (l : List Stm), b = .ref a ∧ SqL K H a xs ∧ DpAll K H xs (encB true l) ∧ wB l = true ∧ dB l ≤ 4 ∧
    ∀ p j H', Same H H' → H p = none → H' p = some (.lst (xs.take j)) → cB (l.take j) ≤ 40 → pB (l.take j) ≤ 6 → Q (.ref p) H'
  | _ => False
theorem sc_law_short : FnScope ["_law_body_here", "_law_left"] ["_law_body_here"] (defScope s_law_short) := ⟨rfl, rfl, rfl, by decide +kernel, rfl, by decide +kernel, by decide +kernel⟩
theorem c_law_short (T : Top w K mg) : Cal P w K mg base CX0 6 "_law_short" (spShort K) := by
  refine cal_0 (f_law_short T) (g_law_short T) sc_law_short (fun _ _ _ _ _ _ us hl => match us, hl with | [_], _ => rfl) (fun vs H Q E h => match vs, h with | [_], _ => rfl) (fun cdv A outer s H vs Q E hr h => ?_)
  match vs, h with
  | [b], h =>
  obtain ⟨a, xs, l, rfl, ha, hx, hw, hd, q⟩ := h
  have lx : xs.length = l.length := by rw [DpAll.len hx, encB_map, List.length_map]
  refine ⟨_, (pss_cons (ps_set (i := 1) sc_law_short.nd rfl (Or.inl rfl) (pct (z_list T) call_list_of boot_list (pa_cons (pv 0) pa_nil)))
    (pss_cons (ps_while PassesOwn.never (PW.pt (pw_or (pt_cmpR op_gt (pc (c_law_size T 4) hr (pa_cons (pv 1) pa_nil)) pe_int (nomark _)) (pw_or1 (pt_cmpR op_gt (pc (c_law_prints T 4) hr (pa_cons (pv 1) pa_nil)) pe_int (nomark _)))))
      (pss_one (ps_expr (pe_bm0 PySem.F.plainAttrs_list PySem.F.slot_list_pop PySem.F.type_list_pop mt_pop (pv 1)))))
    (pss_one (ps_ret (pv 1))))), ?_⟩
  refine ⟨_, rfl, a, xs, rfl, .inl ha, fun p hp => ?_⟩
  refine ⟨fun m σ H' => m ≤ l.length ∧ Same H H' ∧ H' p = some (.lst (xs.take m)) ∧ σ = [some (.ref a), some (.ref p)], ⟨l.length, Nat.le_refl _, smNew1 hp _, by rw [← lx, List.take_length]; exact upd_same, rfl⟩, ?_⟩
  rintro m σ H1 ⟨hm, s1, hp1, rfl⟩
  have dp : ∀ H2, Same H1 H2 → Dp K H2 (.ref p) (seqD true (encB true (l.take m))) := fun H2 s2 => by
    rw [encB_take]
    exact .lst (SqL.of (s2 _ _ hp1)) (DpAll.keep (s1.trans s2) (DpAll.take m hx))
  have pop : ∀ H2, Same H1 H2 → 1 ≤ m → ∃ y, (xs.take m)[(xs.take m).length - 1]? = some y ∧ (upd H2 p (.lst (xs.take m).dropLast)) p = some (.lst (xs.take (m - 1))) := fun H2 s2 h1 => by
    have hl : (xs.take m).length = m := by rw [List.length_take]; omega
    refine ⟨(xs.take m)[(xs.take m).length - 1]'(by omega), List.getElem?_eq_getElem _, ?_⟩
    · rw [upd_same, List.dropLast_eq_take, hl, List.take_take, Nat.min_eq_left (by omega)]
  refine ⟨_, rfl, true, l.take m, dp _ (Same.refl _), Nat.le_trans dB_le hd, fun H2 s2 => ?_⟩
  refine ⟨_, _, rfl, rfl, _, rfl, ifB (fun c => ifT rfl ?_) (fun c => ?_)⟩
  · have c' : (40 : Int) < ((cB (l.take m) : Nat) : Int) := of_decide_eq_true c
    have h1 : 1 ≤ m := by
      cases m with
      | zero => rw [List.take_zero] at c'; simp [cB] at c'
      | succ m => omega
    obtain ⟨y, hy, hu⟩ := pop H2 s2 h1
    refine ⟨fun σ' H' => m - 1 ≤ l.length ∧ Same H H' ∧ H' p = some (.lst (xs.take (m - 1))) ∧ σ' = [some (.ref a), some (.ref p)], fun σ' H' h => ⟨m - 1, by omega, h⟩, ?_⟩
    refine ⟨_, rfl, .inl ⟨rfl, _, SqL.of (s2 _ _ hp1)⟩, p, _, y, rfl, rfl, s2 _ _ hp1, hy, ?_⟩
    exact ⟨by omega, smOut (s1.trans s2) hp _, hu, rfl⟩
  refine ⟨_, rfl, true, l.take m, dp _ s2, wB_take hw m, Nat.le_trans dB_le hd, fun H3 s3 => ?_⟩
  have s23 := s2.trans s3
  refine ⟨_, _, rfl, rfl, _, rfl, ifB (fun c2 => ?_) (fun c2 => ?_)⟩
  · have c' : (6 : Int) < ((pB (l.take m) : Nat) : Int) := of_decide_eq_true c2
    have h1 : 1 ≤ m := by
      cases m with
      | zero => rw [List.take_zero] at c'; simp [pB] at c'
      | succ m => omega
    obtain ⟨y, hy, hu⟩ := pop H3 s23 h1
    refine ⟨fun σ' H' => m - 1 ≤ l.length ∧ Same H H' ∧ H' p = some (.lst (xs.take (m - 1))) ∧ σ' = [some (.ref a), some (.ref p)], fun σ' H' h => ⟨m - 1, by omega, h⟩, ?_⟩
    refine ⟨_, rfl, .inl ⟨rfl, _, SqL.of (s23 _ _ hp1)⟩, p, _, y, rfl, rfl, s23 _ _ hp1, hy, ?_⟩
    exact ⟨by omega, smOut (s1.trans s23) hp _, hu, rfl⟩
  · refine ⟨_, rfl, ?_⟩
    have h1 : ¬ (40 : Int) < ((cB (l.take m) : Nat) : Int) := of_decide_eq_false c
    have h2 : ¬ (6 : Int) < ((pB (l.take m) : Nat) : Int) := of_decide_eq_false c2
    exact q p m H3 (s1.trans s23) hp (s23 _ _ hp1) (by omega) (by omega)
end
end RM

set_option Elab.async false
set_option linter.all false
set_option maxRecDepth 100000
set_option maxHeartbeats 4000000
namespace RM
open PySem PySem.Spec PyProof.Rows L2
/-! ### displays of constants -/
/-- a display that lays new data -/
def Lays (K : PySem.W.Frag) (te : TE) (d : PyData) : Prop := ∀ σ H Q, (∀ v H', Same H H' → Dp K (nw H H') v d → Q v H') → te σ H Q
def LaysA (K : PySem.W.Frag) (ta : TA) (ds : List PyData) : Prop := ∀ σ H Q, (∀ vs H', Same H H' → DpAll K (nw H H') vs ds → Q vs H') → ta σ H Q
theorem nw_up {H H1 H2 : Hp} (e : Same H1 H2) : Same (nw H H1) (nw H H2) := fun b u z => by
  obtain ⟨h1, h2⟩ := nw_some z
  rw [nw_new h1]
  exact e _ _ h2
theorem nw_dn {H H1 H2 : Hp} (e : Same H H1) : Same (nw H1 H2) (nw H H2) := fun b u z => by
  obtain ⟨h1, h2⟩ := nw_some z
  rw [nw_new (e.free h1)]
  exact h2
theorem nw_off {H H' : Hp} {d : Addr} (h : H d ≠ none) : Same (nw H H') (del H' d) := fun b u z => by
  obtain ⟨h1, h2⟩ := nw_some z
  rw [del_ne (fun e => h (by rw [← e]; exact h1))]
  exact h2
section
variable {K : PySem.W.Frag}
theorem lays_str {z : Str} : Lays K (tC (.str z)) (.str z) := fun σ H Q q => q _ _ (Same.refl H) (.str z)
theorem lays_int {n : Int} : Lays K (tC (.int n)) (.int n) := fun σ H Q q => q _ _ (Same.refl H) (.int n)
theorem lays_bl {b : Bool} : Lays K (tC (.bl b)) (.bool b) := fun σ H Q q => q _ _ (Same.refl H) (.bl b)
theorem lays_non : Lays K (tC .non) .none := fun σ H Q q => q _ _ (Same.refl H) .non
theorem laysA_nil : LaysA K tNil [] := fun σ H Q q => q _ _ (Same.refl H) .nil
theorem laysA_cons {te : TE} {ta : TA} {d : PyData} {ds : List PyData} (h : Lays K te d) (t : LaysA K ta ds) : LaysA K (tCons te ta) (d :: ds) := fun σ H Q q =>
  h σ H _ fun v H1 s1 d1 => t σ H1 _ fun vs H2 s2 d2 => q _ _ (s1.trans s2) (.cons (Dp.keep (nw_up s2) d1) (DpAll.keep (nw_dn s1) d2))
theorem lays_tup {ta : TA} {ds : List PyData} (t : LaysA K ta ds) (hl : ds.length ≤ 1000) : Lays K (tTup ta) (.tuple ds) := fun σ H Q q =>
  t σ H _ fun vs H1 s1 d1 => ⟨Nat.le_of_lt (small1000 (by rw [DpAll.len d1]; omega)), fun p hp => q _ _ (smNew s1 hp _)
    (.tup (SqT.of (by rw [nw_new (s1.free hp)]; exact upd_same)) (DpAll.keep (nw_up (smNew1 hp _)) d1))⟩
theorem lays_lst {ta : TA} {ds : List PyData} (t : LaysA K ta ds) (hl : ds.length ≤ 1000) : Lays K (tLst ta) (.list ds) := fun σ H Q q =>
  t σ H _ fun vs H1 s1 d1 => ⟨Nat.le_of_lt (small1000 (by rw [DpAll.len d1]; omega)), fun p hp => q _ _ (smNew s1 hp _)
    (.lst (SqL.of (by rw [nw_new (s1.free hp)]; exact upd_same)) (DpAll.keep (nw_up (smNew1 hp _)) d1))⟩
/-- the list itself is told -/
theorem lays_top {ta : TA} {ds : List PyData} (t : LaysA K ta ds) (hl : ds.length ≤ 1000) {σ : L2.St} {H : Hp} {Q : VK} (q : ∀ p vs H', Same H H' → H' p = some (.lst vs) → DpAll K (nw H H') vs ds → Q (.ref p) H') : tLst ta σ H Q :=
  t σ H _ fun vs H1 s1 d1 => ⟨Nat.le_of_lt (small1000 (by rw [DpAll.len d1]; omega)), fun p hp => q _ _ _ (smNew s1 hp _) upd_same (DpAll.keep (nw_up (smNew1 hp _)) d1)⟩
end
theorem lays_neg {K : PySem.W.Frag} {n : Int} : Lays K (tUn (rU fun i => .int (-i)) (tC (.int n))) (.int (-n)) := fun σ H Q q => ⟨n, rfl, q _ _ (Same.refl H) (.int (-n))⟩
/-- the odd statements -/
def odds : List PyData :=
  [.tuple [.str "read", .str "x"], .tuple [.str "read", .str "X", .str "a"], .tuple [.str "say", .int 100], .tuple [.str "say", .bool true], .tuple [.str "set", .str "x", .none], .tuple [.str "wait", .int 1], .list [.str "wait"]] ++
  [.none, .tuple [], .tuple [.str "loop"], .tuple [.str "repeat", .int 4, .list []], .tuple [.str "repeat", .int 1, .str "x"], .tuple [.str "if", .str "x", .int 1, .list []], .tuple [.str "print", .str ""]] ++
  [.tuple [.str "if", .str "x", .int 1, .list [], .none], .tuple [.str "same", .str "x", .int 1, .list [], .list []], .int 5, .tuple [.str "repeat", .int (-1), .list []], .tuple [.str "copy", .str "x", .str "toolong"]]
theorem bad_of {d : PyData} (s : Stm) (ds : List PyData) (e : d = .tuple (.str s.word :: ds)) (h1 : ∀ d ∈ ds, smallD d = true) (h2 : ds.length ≤ 1000) (h3 : goodT s ds = false) : BadS d := .inr ⟨s, ds, e, h1, h2, h3⟩
theorem odds_bad : ∀ d ∈ odds, BadS d := by
  intro d hd
  simp only [odds, List.cons_append, List.nil_append, List.mem_cons, List.not_mem_nil, or_false] at hd
  rcases hd with rfl | rfl | rfl | rfl | rfl | rfl | rfl | rfl | rfl | rfl | rfl | rfl | rfl | rfl | rfl | rfl | rfl | rfl | rfl
  · exact bad_of (.read "" "") _ rfl (by decide +kernel) (by decide) (by decide +kernel)
  · exact bad_of (.read "" "") _ rfl (by decide +kernel) (by decide) (by decide +kernel)
  · exact bad_of (.say 0) _ rfl (by decide +kernel) (by decide) (by decide +kernel)
  · exact bad_of (.say 0) _ rfl (by decide +kernel) (by decide) (by decide +kernel)
  · exact bad_of (.set "" 0) _ rfl (by decide +kernel) (by decide) (by decide +kernel)
  · exact bad_of .wait _ rfl (by decide +kernel) (by decide) (by decide +kernel)
  · exact .inl (.lst _)
  · exact .inl .non
  · exact .inl .nil
  · exact .inl (.loop _)
  · exact bad_of (.rep 0 []) _ rfl (by decide +kernel) (by decide) (by decide +kernel)
  · exact bad_of (.rep 0 []) _ rfl (by decide +kernel) (by decide) (by decide +kernel)
  · exact bad_of (.ite "" 0 [] []) _ rfl (by decide +kernel) (by decide) (by decide +kernel)
  · exact bad_of (.print "") _ rfl (by decide +kernel) (by decide) (by decide +kernel)
  · exact bad_of (.ite "" 0 [] []) _ rfl (by decide +kernel) (by decide) (by decide +kernel)
  · exact bad_of (.same "" "" [] []) _ rfl (by decide +kernel) (by decide) (by decide +kernel)
  · exact .inl (.int 5)
  · exact bad_of (.rep 0 []) _ rfl (by decide +kernel) (by decide) (by decide +kernel)
  · exact bad_of (.copy "" "") _ rfl (by decide +kernel) (by decide) (by decide +kernel)
theorem DpAll.drop {K : PySem.W.Frag} {H : Hp} : ∀ {xs : List V} {ds : List PyData} (m : Nat), DpAll K H xs ds → DpAll K H (xs.drop m) (ds.drop m)
  | _, _, 0, h => h
  | [], _, m + 1, h => by cases h; exact .nil
  | x :: xs, _, m + 1, h => by
    cases h with
    | cons h t => exact DpAll.drop m t
theorem app_one {α : Type} (a : List α) (x : α) (b : List α) : (a ++ [x]) ++ b = a ++ x :: b := by rw [List.append_assoc]; rfl
theorem encB_drop (fl : Bool) (l : List Stm) (m : Nat) : encB fl (l.drop m) = (encB fl l).drop m := by rw [encB_map, encB_map, List.map_drop]
theorem cut_pre (xs : List V) (k : Nat) (h : k ≤ xs.length) : cutV xs none (some (k : Int)) = xs.take k := by
  unfold cutV
  have e1 := HT.sIx_nat xs.length xs.length k
  rw [e1, HT.sIx_none, List.drop_zero]
  congr 1
  omega
theorem cut_post (xs : List V) (k : Nat) (h : k ≤ xs.length) : cutV xs (some (k : Int)) none = xs.drop k := by
  unfold cutV
  have e1 : HT.sIx xs.length 0 (some (k : Int)) = k := by
    have := HT.sIx_nat xs.length 0 k
    omega
  rw [e1, HT.sIx_none]
  exact List.take_of_length_le (by rw [List.length_drop]; omega)
theorem cB_take_le (l : List Stm) (k : Nat) : cB (l.take k) + (l.drop k).length ≤ cB l := by
  have e : cB l = cB (l.take k) + cB (l.drop k) := by
    have key : ∀ a b : List Stm, cB (a ++ b) = cB a + cB b := by
      intro a
      induction a with
      | nil => intro b; simp [cB]
      | cons x r ih => intro b; rw [List.cons_append, cB, cB, ih b]; omega
    rw [← key, List.take_append_drop]
  have := cB_len (l.drop k)
  omega
section
variable {P : Program} {w : World} {K : PySem.W.Frag} {mg : Str → Option Value} {base : Heap}
/-! ### _law_spoiled -/
def spSpoil (K : PySem.W.Frag) (n : Nat) : Sp := fun vs H Q _ => match vs with
  | [x, y] => ∃ (d sc b : Addr) (xs : List V) (l : List Stm), x = .ref d ∧ y = .ref b ∧ DrawAt K H d sc ∧ SqL K (del H d) b xs ∧ DpAll K (del H d) xs (encB true l) ∧ wB l = true ∧ dB l ≤ n ∧ cB l ≤ 400 ∧
    ∀ r ys (c : Bad) H', But d H H' → DrawAt K H' d sc → H' r = some (.lst ys) → r ≠ d → DpAll K (del H' d) ys c.enc → c.ok → c.deep ≤ dB l → c.small → Q (.ref r) H'
  | _ => False
theorem sc_law_spoiled : FnScope ["_law_draws", "_law_body_here", "_law_odd", "_law_at"] ["_law_draws", "_law_body_here"] (defScope s_law_spoiled) := ⟨rfl, rfl, rfl, by decide +kernel, rfl, by decide +kernel, by decide +kernel⟩
theorem ok_spoiled (T : Top w K mg) {n : Nat} (ih : Cal P w K mg base CX0 (n + 4) "_law_spoiled" (spSpoil K n)) : Cal P w K mg base CX0 (n + 5) "_law_spoiled" (spSpoil K (n + 1)) := by
  refine cal_0 (f_law_spoiled T) (g_law_spoiled T) sc_law_spoiled (fun _ _ _ _ _ _ us hl => match us, hl with | [_, _], _ => rfl) (fun vs H Q E h => match vs, h with | [_, _], _ => rfl) (fun cdv A outer s H vs Q E hr h => ?_)
  match vs, h with
  | [x, y], h =>
  obtain ⟨d, sc, b, xs, l, rfl, rfl, da, hb, hx, hw, hn, hc, q⟩ := h
  refine ⟨_, (pss_cons (ps_set (i := 2) sc_law_spoiled.nd rfl (Or.inl rfl) (pe_lst (pa_cons (pe_tup (pa_cons pe_str (pa_cons pe_str pa_nil))) (pa_cons (pe_tup (pa_cons pe_str (pa_cons pe_str (pa_cons pe_str pa_nil)))) (pa_cons (pe_tup (pa_cons pe_str (pa_cons pe_int pa_nil))) (pa_cons (pe_tup (pa_cons pe_str (pa_cons pe_bl pa_nil))) (pa_cons (pe_tup (pa_cons pe_str (pa_cons pe_str (pa_cons pe_non pa_nil)))) (pa_cons (pe_tup (pa_cons pe_str (pa_cons pe_int pa_nil))) (pa_cons (pe_lst (pa_cons pe_str pa_nil)) pa_nil)))))))))
    (pss_cons (ps_set (i := 2) sc_law_spoiled.nd rfl (Or.inl rfl) (pe_op op_cat (pv 2) (pe_lst (pa_cons pe_non (pa_cons (pe_tup pa_nil) (pa_cons (pe_tup (pa_cons pe_str pa_nil)) (pa_cons (pe_tup (pa_cons pe_str (pa_cons pe_int (pa_cons (pe_lst pa_nil) pa_nil)))) (pa_cons (pe_tup (pa_cons pe_str (pa_cons pe_int (pa_cons pe_str pa_nil)))) (pa_cons (pe_tup (pa_cons pe_str (pa_cons pe_str (pa_cons pe_int (pa_cons (pe_lst pa_nil) pa_nil))))) (pa_cons (pe_tup (pa_cons pe_str (pa_cons pe_str pa_nil))) pa_nil))))))))))
    (pss_cons (ps_set (i := 2) sc_law_spoiled.nd rfl (Or.inl rfl) (pe_op op_cat (pv 2) (pe_lst (pa_cons (pe_tup (pa_cons pe_str (pa_cons pe_str (pa_cons pe_int (pa_cons (pe_lst pa_nil) (pa_cons pe_non pa_nil)))))) (pa_cons (pe_tup (pa_cons pe_str (pa_cons pe_str (pa_cons pe_int (pa_cons (pe_lst pa_nil) (pa_cons (pe_lst pa_nil) pa_nil)))))) (pa_cons pe_int (pa_cons (pe_tup (pa_cons pe_str (pa_cons (pe_un un_neg pe_int) (pa_cons (pe_lst pa_nil) pa_nil)))) (pa_cons (pe_tup (pa_cons pe_str (pa_cons pe_str (pa_cons pe_str pa_nil)))) pa_nil))))))))
    (pss_cons (ps_set (i := 3) sc_law_spoiled.nd rfl (Or.inl rfl) (pc (c_law_draw T) hr (pa_cons (pv 0) (pa_cons (pe_op op_add (pcb (z_len T) call_len_seq boot_len (pa_cons (pv 1) pa_nil)) pe_int) pa_nil))))
    (pss_cons (ps_mid (ps_if (PW.pt (pw_and (pt_cmpR op_lt (pv 3) (pcb (z_len T) call_len_seq boot_len (pa_cons (pv 1) pa_nil)) (nomark _)) (pw_and (pt_cmpR op_eq (pc (c_law_draw T) hr (pa_cons (pv 0) (pa_cons pe_int pa_nil))) pe_int (nomark _)) (pw_and (pt_cmpR op_eq (pe_ix ix_tup (pe_ix ix_list (pv 1) (pv 3) (fun _ _ => rfl)) pe_int (fun _ _ => rfl)) pe_str (nomark _)) (pw_and1 (pt_val (pcb (z_isinstance T) call_isi boot_isinstance (pa_cons (pe_ix ix_list (pv 1) (pv 3) (fun _ _ => rfl)) (pa_cons (pty (z_tuple T) boot_tuple) pa_nil)))))))))
      (pss_one (ps_ret (pe_op op_cat (pe_op op_cat (pe_slice sl_list (pv 1) po_none (po_some (pv 3))) (pe_lst (pa_cons (pe_tup (pa_cons pe_str (pa_cons (pe_ix ix_tup (pe_ix ix_list (pv 1) (pv 3) (fun _ _ => rfl)) pe_int (fun _ _ => rfl)) (pa_cons (pc ih hr (pa_cons (pv 0) (pa_cons (pct (z_list T) call_list_of boot_list (pa_cons (pe_ix ix_tup (pe_ix ix_list (pv 1) (pv 3) (fun _ _ => rfl)) pe_int (fun _ _ => rfl)) pa_nil)) pa_nil))) pa_nil)))) pa_nil))) (pe_slice sl_list (pv 1) (po_some (pe_op op_add (pv 3) pe_int)) po_none))))
      pss_nil))
    (pss_one (ps_ret (pe_op op_cat (pe_op op_cat (pe_slice sl_list (pv 1) po_none (po_some (pv 3))) (pe_lst (pa_cons (pe_ix ix_list (pv 2) (pc (c_law_draw T) hr (pa_cons (pv 0) (pa_cons (pcb (z_len T) call_len_seq boot_len (pa_cons (pv 2) pa_nil)) pa_nil))) (fun _ _ => rfl)) pa_nil))) (pe_slice sl_list (pv 1) (po_some (pv 3)) po_none))))))))), ?_⟩
  have lx : xs.length = l.length := by rw [DpAll.len hx, encB_map, List.length_map]
  have ll := cB_len l
  show tAsg (tLst (tCons _ _)) (gName 2) _ _ H
  show tLst (tCons _ _) _ H _
  refine lays_top (K := K) (ds := odds.take 7) ?_ (by decide) fun p1 vs1 H1 s1 hp1 d1 => ?_
  · show LaysA _ _ [_, _, _, _, _, _, _]
    repeat (first | exact laysA_nil | exact lays_str | exact lays_int | exact lays_bl | exact lays_non | exact lays_neg | refine laysA_cons ?_ ?_ | refine lays_tup ?_ (by decide) | refine lays_lst ?_ (by decide))
  refine ⟨_, rfl, ?_⟩
  show tLst (tCons _ _) _ H1 _
  refine lays_top (K := K) (ds := (odds.drop 7).take 7) ?_ (by decide) fun p2 vs2 H2 s2 hp2 d2 => ?_
  · show LaysA _ _ [_, _, _, _, _, _, _]
    repeat (first | exact laysA_nil | exact lays_str | exact lays_int | exact lays_bl | exact lays_non | exact lays_neg | refine laysA_cons ?_ ?_ | refine lays_tup ?_ (by decide) | refine lays_lst ?_ (by decide))
  have l1 := DpAll.len d1
  have l2 := DpAll.len d2
  refine ⟨p1, p2, vs1, vs2, rfl, rfl, s2 _ _ hp1, hp2, Nat.le_of_lt (small1000 (by rw [l1, l2]; decide)), fun p3 hp3 => ?_⟩
  refine ⟨_, rfl, ?_⟩
  show tLst (tCons _ _) _ (upd H2 p3 (.lst (vs1 ++ vs2))) _
  refine lays_top (K := K) (ds := odds.drop 14) ?_ (by decide) fun p4 vs4 H4 s4 hp4 d4 => ?_
  · show LaysA _ _ [_, _, _, _, _]
    repeat (first | exact laysA_nil | exact lays_str | exact lays_int | exact lays_bl | exact lays_non | exact lays_neg | refine laysA_cons ?_ ?_ | refine lays_tup ?_ (by decide) | refine lays_lst ?_ (by decide))
  have l4 := DpAll.len d4
  refine ⟨p3, p4, vs1 ++ vs2, vs4, rfl, rfl, s4 _ _ upd_same, hp4, Nat.le_of_lt (small1000 (by rw [List.length_append, l1, l2, l4]; decide)), fun p5 hp5 => ?_⟩
  obtain ⟨H5, eH5⟩ : ∃ G, G = upd H4 p5 (.lst ((vs1 ++ vs2) ++ vs4)) := ⟨_, rfl⟩
  have t3 : Same H2 (upd H2 p3 (.lst (vs1 ++ vs2))) := smNew1 hp3 _
  have t5 : Same H4 H5 := by rw [eH5]; exact smNew1 hp5 _
  have h5 : H5 p5 = some (.lst ((vs1 ++ vs2) ++ vs4)) := by rw [eH5]; exact upd_same
  rw [← eH5]
  have t25 : Same H2 H5 := t3.trans (s4.trans t5)
  have s5 : Same H H5 := s1.trans (s2.trans t25)
  have od : DpAll K (nw H H5) ((vs1 ++ vs2) ++ vs4) odds := by
    refine DpAll.app (ds := odds.take 7 ++ (odds.drop 7).take 7) (es := odds.drop 14) (DpAll.app ?_ ?_) ?_
    · exact DpAll.keep (nw_up (s2.trans t25)) d1
    · exact DpAll.keep ((nw_dn s1).trans (nw_up t25)) d2
    · exact DpAll.keep ((nw_dn (s1.trans (s2.trans t3))).trans (nw_up t5)) d4
  have hd0 := da.1.ne
  have odl : ((vs1 ++ vs2) ++ vs4).length = 19 := by rw [DpAll.len od]; decide
  generalize (vs1 ++ vs2) ++ vs4 = ovs at h5 od odl
  clear eH5 hp5 hp4 hp2 hp1 d1 d2 d4 l1 l2 l4 hp3
  have p5d : p5 ≠ d := fun e => by
    obtain ⟨x1, x2, x3, hx0, _⟩ := da.1
    have := s5 _ _ hx0
    rw [← e, h5] at this
    have e2 := congrArg List.length (HO.lst.inj (Option.some.inj this))
    rw [odl] at e2
    cases e2
  -- where
  have hb5 : ∀ {H'}, But d H5 H' → SqL K (del H' d) b xs := fun b6 => ((but_sm s5).trans b6).seq hb
  refine ⟨_, rfl, _, rfl, b, xs, rfl, .inl ((del_sm _ _).seq (hb5 (But.refl d H5))), _, _, rfl, rfl, d, sc, _, rfl, rfl, da.keep s5, by omega, by omega, fun r H6 r0 r1 b6 d6 => ?_⟩
  obtain ⟨k, rfl, hk⟩ := draw_of r0 r1
  refine ⟨fun σ H' => (But d H5 H' ∧ DrawAt K H' d sc) ∧ σ = [some (.ref d), some (.ref b), some (.ref p5), some (.int k)], ?_, ?_⟩
  · have bs6 : SqL K H6 b xs := (del_sm _ _).seq (hb5 b6)
    have out : ∀ H', But d H5 H' → DrawAt K H' d sc → (But d H5 H' ∧ DrawAt K H' d sc) ∧ [some (V.ref d), some (.ref b), some (.ref p5), some (.int k)] = [some (V.ref d), some (.ref b), some (.ref p5), some (.int k)] := fun H' h1 h2 => ⟨⟨h1, h2⟩, rfl⟩
    refine ⟨_, rfl, _, rfl, b, xs, rfl, .inl bs6, _, _, rfl, rfl, _, rfl, ifB (fun c1 => ?_) (fun _ => ifF rfl (out H6 b6 d6))⟩
    have kl : k < l.length := by
      have : (k : Int) < (xs.length : Nat) := of_decide_eq_true c1
      omega
    refine ⟨_, rfl, d, sc, _, rfl, rfl, d6, by decide, by decide, fun r7 H7 _ _ b67 d7 => ?_⟩
    have b7 := b6.trans b67
    refine ⟨rfl, _, rfl, ifB (fun _ => ?_) (fun _ => ifF rfl (out H7 b7 d7))⟩
    have bs7 : SqL K H7 b xs := (del_sm _ _).seq (hb5 b7)
    have dx7 : DpAll K (del H7 d) xs (encB true l) := DpAll.keep ((but_sm s5).trans b7) hx
    obtain ⟨xk, hxk, dxk⟩ := DpAll.get dx7 (i := k) (d := encS true l[k]) (by rw [encB_map, List.getElem?_map, List.getElem?_eq_getElem kl]; rfl)
    have hm : l[k] ∈ l := List.getElem_mem kl
    generalize l[k] = st at hm dxk
    obtain ⟨sa, sxs, rfl, hsa, hsx⟩ := shape_of dxk
    have ak : atI xs (k : Int) = some (.ref sa) := atI_nat hxk
    have hsa7 : SqT K H7 sa (.str st.word :: sxs) := smT (del_sm _ _) hsa
    refine ⟨_, rfl, _, rfl, b, xs, _, _, rfl, rfl, bs7, ak, _, _, _, _, rfl, rfl, hsa7, at0, rfl, _, rfl, ifB (fun c2 => ?_) (fun _ => ifF rfl (out H7 b7 d7))⟩
    obtain ⟨n', a, rfl⟩ := (word_rep st).mp (V.str.inj (of_decide_eq_true c2))
    refine ⟨_, rfl, _, rfl, b, xs, _, _, rfl, rfl, bs7, ak, _, _, _, _, true, rfl, .ty _, tyT hsa7, kit_ty (by decide +kernel), _, rfl, ifT rfl ?_⟩
    have ws := wB_all hw _ hm
    have dm : dB a + 1 ≤ dB l := dB_mem hm
    have cm : 1 + cB a ≤ cB l := cB_mem hm
    have wn : (0 ≤ n' ∧ n' ≤ 3) ∧ wB a = true := by
      simp only [wS, Bool.and_eq_true, decide_eq_true_eq] at ws
      exact ws
    obtain ⟨z1, r1, rfl, hz1, hz2⟩ := DpAll.cons_inv hsx
    obtain rfl := Dp.int_inv hz1
    obtain ⟨z2, r2, rfl, hz3, hz4⟩ := DpAll.cons_inv hz2
    obtain rfl := DpAll.nil_inv hz4
    obtain ⟨la, ys, rfl, hla, hys⟩ := Dp.lst_inv hz3
    -- body[:at]
    refine ⟨_, rfl, _, rfl, _, rfl, b, xs, rfl, bs7, fun p6 hp6 => ?_⟩
    rw [cut_pre xs k (by omega)]
    have e8 := smNew1 hp6 (.lst (xs.take k))
    have d8 := d7.keep e8
    have hsa8 := smT e8 hsa7
    have bs8 := e8.seq bs7
    refine ⟨_, rfl, _, rfl, b, xs, _, _, rfl, rfl, bs8, ak, _, _, _, _, rfl, rfl, hsa8, at1, ?_⟩
    refine ⟨_, rfl, _, rfl, _, rfl, b, xs, _, _, rfl, rfl, bs8, ak, _, _, _, _, rfl, rfl, hsa8, at2, ?_⟩
    refine ⟨la, ys, rfl, .inl (e8.seq ((del_sm _ _).seq hla)), fun p7 hp7 => ?_⟩
    have e9 := smNew e8 hp7 (.lst ys)
    have n7 : p7 ≠ d := fun e => d8.1.ne (by rw [← e]; exact hp7)
    refine ⟨d, sc, p7, ys, a, rfl, rfl, d7.keep e9, SqL.of (by rw [del_ne n7]; exact upd_same), DpAll.keep (but_sm e9) hys, wn.2, by omega, by omega, fun r9 ys9 c H9 b9' d9 hr9 r9d dd9 okc dpc smc => ?_⟩
    have b79 : But d H7 H9 := (but_sm e9).trans b9'
    have b9 : But d H5 H9 := b7.trans b79
    refine ⟨(by show 3 ≤ sizeLine; decide), fun p10 hp10 => ?_⟩
    have e10 := smNew1 hp10 (.tup [.str "repeat", .int n', .ref r9])
    refine ⟨(by show 1 ≤ sizeLine; decide), fun p11 hp11 => ?_⟩
    have e11 := smNew e10 hp11 (.lst [.ref p10])
    have n6 : p6 ≠ d := fun e => d7.1.ne (by rw [← e]; exact hp6)
    have h69 : H9 p6 = some (.lst (xs.take k)) := b9'.get n6 (by rw [upd_ne (fun e => by rw [← e, upd_same] at hp7; cases hp7)]; exact upd_same)
    have n10 : p10 ≠ d := fun e => d9.1.ne (by rw [← e]; exact hp10)
    refine ⟨p6, p11, _, _, rfl, rfl, e11 _ _ h69, upd_same, Nat.le_of_lt (small1000 (by rw [List.length_take]; show _ + 1 ≤ 1000; omega)), fun p12 hp12 => ?_⟩
    have e12 := smNew e11 hp12 (.lst (xs.take k ++ [.ref p10]))
    have bs12 : SqL K _ b xs := e12.seq ((del_sm _ _).seq (hb5 b9))
    refine ⟨_, rfl, _, rfl, _, _, rfl, rfl, _, rfl, b, xs, rfl, bs12, fun p13 hp13 => ?_⟩
    rw [show ((k : Int) + 1) = ((k + 1 : Nat) : Int) by omega, cut_post xs (k + 1) (by omega)]
    have e13 := smNew1 hp13 (.lst (xs.drop (k + 1)))
    refine ⟨p12, p13, _, _, rfl, rfl, e13 _ _ upd_same, upd_same, Nat.le_of_lt (small1000 (by rw [List.length_append, List.length_take, List.length_drop]; show _ + 1 + _ ≤ 1000; omega)), fun p14 hp14 => ?_⟩
    have e914 : Same H9 _ := (e12.trans e13).trans (smNew1 hp14 (.lst ((xs.take k ++ [.ref p10]) ++ xs.drop (k + 1))))
    have b14 := b9.trans (but_sm e914)
    have dx14 := DpAll.keep ((but_sm s5).trans b14) hx
    have hp10' : (upd (upd H9 p10 (.tup [.str "repeat", .int n', .ref r9])) p11 (.lst [.ref p10])) p10 = some (.tup [.str "repeat", .int n', .ref r9]) := by
      rw [upd_ne (fun e => by rw [← e, upd_same] at hp11; cases hp11)]
      exact upd_same
    refine q p14 _ (.rep (l.take k) n' c (encB true (l.drop (k + 1)))) _ ((but_sm s5).trans b14) (d9.keep e914) upd_same (fun e => (d9.keep (e12.trans e13)).1.ne (by rw [← e]; exact hp14)) ?_ ⟨wB_take hw k, wn.1, okc⟩ ?_ ⟨?_, smc⟩
    · show DpAll K _ _ (encB true (l.take k) ++ .tuple [.str "repeat", .int n', .list c.enc] :: encB true (l.drop (k + 1)))
      rw [encB_take, encB_drop, ← app_one (List.take k (encB true l))]
      refine DpAll.app (DpAll.app (DpAll.take k dx14) (.cons ?_ .nil)) (DpAll.drop (k + 1) dx14)
      refine .tup (xs := [.str "repeat", .int n', .ref r9]) (SqT.of ?_) (.cons (.str _) (.cons (.int _) (.cons (.lst (SqL.of ?_) (DpAll.keep (but_sm e914) dd9)) .nil)))
      · rw [del_ne n10]
        exact smNew1 hp14 _ _ _ (e13 _ _ (smNew1 hp12 _ _ _ hp10'))
      · rw [del_ne r9d]
        exact e914 _ _ hr9
    · show max (dB (l.take k)) (c.deep + 1) ≤ dB l
      have := dB_le (l := l) (m := k)
      omega
    · show cB (l.take k) + (encB true (l.drop (k + 1))).length ≤ 999
      have := cB_take_le l k
      rw [encB_map, List.length_map, List.length_drop]
      rw [List.length_drop] at this
      omega
  · rintro σ H7 ⟨⟨b7, d7⟩, rfl⟩
    have bs7 : SqL K H7 b xs := (del_sm _ _).seq (hb5 b7)
    refine ⟨_, rfl, _, rfl, _, rfl, b, xs, rfl, bs7, fun p6 hp6 => ?_⟩
    rw [cut_pre xs k (by omega)]
    have e8 := smNew1 hp6 (.lst (xs.take k))
    have d8 := d7.keep e8
    have g5 : ∀ {H' : Hp}, But d H5 H' → H' p5 = some (.lst ovs) := fun b' => b'.get p5d h5
    refine ⟨_, rfl, _, rfl, _, rfl, p5, ovs, rfl, .inl (SqL.of (e8 _ _ (g5 b7))), d, sc, _, rfl, rfl, d8, by omega, by omega, fun r9 H9 r90 r91 b89 d9 => ?_⟩
    have b9 : But d H5 H9 := b7.trans ((but_sm e8).trans b89)
    obtain ⟨j, rfl, hj⟩ := draw_of r90 r91
    have jl : j < odds.length := by
      have : odds.length = 19 := by decide
      omega
    obtain ⟨v, hv, dv⟩ := DpAll.get od (i := j) (d := odds[j]) (List.getElem?_eq_getElem jl)
    have bad := odds_bad odds[j] (List.getElem_mem jl)
    generalize odds[j] = od1 at dv bad
    refine ⟨p5, ovs, _, v, rfl, rfl, SqL.of (g5 b9), atI_nat hv, ?_⟩
    refine ⟨(by show 1 ≤ sizeLine; decide), fun p10 hp10 => ?_⟩
    have n6 : p6 ≠ d := fun e => d7.1.ne (by rw [← e]; exact hp6)
    have h69 : H9 p6 = some (.lst (xs.take k)) := b89.get n6 upd_same
    have e10 := smNew1 hp10 (.lst [v])
    refine ⟨p6, p10, _, _, rfl, rfl, e10 _ _ h69, upd_same, Nat.le_of_lt (small1000 (by rw [List.length_take]; show _ + 1 ≤ 1000; omega)), fun p11 hp11 => ?_⟩
    have e11 := smNew e10 hp11 (.lst (xs.take k ++ [v]))
    have bs11 : SqL K _ b xs := e11.seq ((del_sm _ _).seq (hb5 b9))
    refine ⟨_, rfl, _, rfl, _, rfl, b, xs, rfl, bs11, fun p12 hp12 => ?_⟩
    rw [cut_post xs k (by omega)]
    have e12 := smNew1 hp12 (.lst (xs.drop k))
    refine ⟨p11, p12, _, _, rfl, rfl, e12 _ _ upd_same, upd_same, Nat.le_of_lt (small1000 (by rw [List.length_append, List.length_take, List.length_drop]; show _ + 1 + _ ≤ 1000; omega)), fun p13 hp13 => ?_⟩
    have e913 : Same H9 _ := (smNew e11 hp12 (.lst (xs.drop k))).trans (smNew1 hp13 (.lst ((xs.take k ++ [v]) ++ xs.drop k)))
    have b13 := b9.trans (but_sm e913)
    have d13 := d9.keep e913
    have dx13 := DpAll.keep ((but_sm s5).trans b13) hx
    refine q p13 _ (.odd (l.take k) od1 (encB true (l.drop k))) _ ((but_sm s5).trans b13) d13 upd_same (fun e => (d9.keep (smNew e11 hp12 (.lst (xs.drop k)))).1.ne (by rw [← e]; exact hp13)) ?_ ⟨wB_take hw k, bad⟩ dB_le ?_
    · show DpAll K _ _ (encB true (l.take k) ++ od1 :: encB true (l.drop k))
      rw [encB_take, encB_drop, ← app_one (List.take k (encB true l))]
      exact DpAll.app (DpAll.app (DpAll.take k dx13) (.cons (Dp.keep ((nw_off hd0).trans b13) dv) .nil)) (DpAll.drop k dx13)
    · show cB (l.take k) + (encB true (l.drop k)).length ≤ 999
      have := cB_take_le l k
      rw [encB_map, List.length_map]
      omega
theorem c_law_spoiled (T : Top w K mg) : ∀ n, Cal P w K mg base CX0 (n + 4) "_law_spoiled" (spSpoil K n)
  | 0 => cal_never (f_law_spoiled T) (g_law_spoiled T) (ps := ["_law_draws", "_law_body_here"]) (fun _ _ _ _ _ _ us hl => match us, hl with | [_, _], _ => rfl) fun vs H Q E h => by
      match vs, h with
      | [x, y], h =>
      obtain ⟨d, sc, b, xs, l, _, _, _, _, _, _, hn, _⟩ := h
      have := dB_one l
      omega
  | n + 1 => ok_spoiled T (c_law_spoiled T n)
end
end RM

set_option Elab.async false
set_option linter.all false
set_option maxRecDepth 100000
set_option maxHeartbeats 2000000
namespace RM
open PySem PySem.Spec PyProof.Rows L2
section
variable {P : Program} {w : World} {K : PySem.W.Frag} {mg : Str → Option Value} {base : Heap}
/-! ### as_tuples -/
def spAsT (K : PySem.W.Frag) (n : Nat) : Sp := fun vs H Q _ => match vs with
  | [b] => ∃ (fl fi : Bool) (l : List Stm), Dp K H b (seqD fl (encB fi l)) ∧ dB l ≤ n ∧ cB l ≤ 1000 ∧ ∀ v H', Same H H' → Dp K H' v (.tuple (encB false l)) → Q v H'
  | _ => False
theorem sc_as_tuples : FnScope ["body", "found", "statement", "form", "items", "item", "sign"] ["body"] (defScope s_as_tuples) := ⟨rfl, rfl, rfl, by decide +kernel, rfl, by decide +kernel, by decide +kernel⟩
theorem paired_dp2 {H : Hp} : ∀ {ys : List V} {ds : List PyData}, Paired (fun y a => Dp K H y a ∧ noL a = true) ys ds → DpAll K H ys ds
  | _, _, .nil => .nil
  | _, _, .cons h t => .cons h.1 (paired_dp2 t)
theorem ok_as_tuples (T : Top w K mg) {n : Nat} (ih : Cal P w K mg base CX0 (n + 1) "as_tuples" (spAsT K n)) : Cal P w K mg base CX0 (n + 2) "as_tuples" (spAsT K (n + 1)) := by
  refine cal_0 (f_as_tuples T) (g_as_tuples T) sc_as_tuples (fun _ _ _ _ _ _ us hl => match us, hl with | [_], _ => rfl) (fun vs H Q E h => match vs, h with | [_], _ => rfl) (fun cdv A outer s H vs Q E hr h => ?_)
  match vs, h with
  | [b], h =>
  obtain ⟨fl, fi, l, hb, hn, hc, q⟩ := h
  obtain ⟨a, xs, rfl, ha, hx⟩ := seqD_inv hb
  have lx : xs.length = l.length := by rw [DpAll.len hx, encB_map, List.length_map]
  have ll := cB_len l
  refine ⟨_, (pss_cons (ps_set (i := 1) sc_as_tuples.nd rfl (Or.inl rfl) (pe_lst pa_nil))
    (pss_cons (ps_for PassesOwn.never rfl (pi_seqA (pv 0)) (pg_name (i := 2) sc_as_tuples.nd rfl (Or.inl rfl))
      (pss_cons (ps_set (i := 3) sc_as_tuples.nd rfl (Or.inl rfl) (pe_ix ix_kdict (pglR (g_FORMS T)) (pe_ix ix_tup (pv 2) pe_int (fun _ _ => rfl)) (fun _ _ => rfl)))
    (pss_cons (ps_setLc (i := 4) (own := [("item", 5), ("sign", 6)]) rfl sc_as_tuples.nd rfl rfl (sw_true rfl rfl rfl (by decide +kernel)) (pi_zipTS (by rfl) (z_zip T) (pa_cons (pe_slice sl_tup (pv 2) (po_some pe_int) po_none) (pa_cons (pv 3) pa_nil))) (blkOk_by (own := [("item", 5), ("sign", 6)]) (N := ["body", "found", "statement", "form", "items", "item", "sign"]) (sc := defScope s_as_tuples) (by decide +kernel)) (fun _ _ _ _ _ => (pg_tup' (n := 2) (K := K) rfl rfl (pgs_cons (pg_name (i := 5) sc_as_tuples.nd rfl (Or.inl rfl) (Or.inr rfl)) (pgs_cons (pg_name (i := 6) sc_as_tuples.nd rfl (Or.inl rfl) (Or.inr rfl)) pgs_nil)) rfl rfl)) (fun _ _ _ _ _ => pts_nil) (fun _ _ _ _ _ => (pe_ifExp (pt_cmpR op_eq (pv 6) pe_str (nomark _)) (pc ih hr (pa_cons (pv 5) pa_nil)) (pv 5))))
    (pss_one (ps_expr (pe_bm PySem.F.plainAttrs_list PySem.F.slot_list_append PySem.F.type_list_append mt_append (pv 1) (pa_cons (pe_op op_catG (pe_tup (pa_cons (pe_ix ix_tup (pv 2) pe_int (fun _ _ => rfl)) pa_nil)) (pct (z_tuple T) call_tuple_of boot_tuple (pa_cons (pv 4) pa_nil))) pa_nil)))))))
    (pss_one (ps_ret (pct (z_tuple T) call_tuple_of boot_tuple (pa_cons (pv 1) pa_nil)))))), ?_⟩
  refine ⟨(by show 0 ≤ sizeLine; decide), fun fd nfd => ?_⟩
  have s0 := smNew1 nfd (.lst [])
  refine ⟨_, rfl, ?_⟩
  refine seqA_of ha s0 fun J wk => ?_
  refine for_it wk (fun i σ H' => Same H H' ∧ (∃ acc, H' fd = some (.lst acc) ∧ DpAll K H' acc (encB false (l.take i))) ∧ ∃ v2 v3 v4 v5 v6, σ = [some (.ref a), some (.ref fd), v2, v3, v4, v5, v6])
    ⟨s0, ⟨[], upd_same, .nil⟩, _, _, _, _, _, rfl⟩ (fun i σ H' _ h => h.1) ?_ ?_
  · rintro i x σ H1 H2 hi ⟨s1, ⟨acc, hacc, hdp⟩, v2, v3, v4, v5, v6, rfl⟩ ⟨rfl, hx1⟩
    obtain ⟨d, hd1, hd2⟩ := DpAll.getV hx hx1
    obtain ⟨st, hst, rfl⟩ := encB_get hd1
    have hm : st ∈ l := List.mem_of_getElem? hst
    obtain ⟨sa, sxs, rfl, hsa, hsx⟩ := shape_of hd2
    have hl : sxs.length = st.form.cps.size := ShapeS.items hsx
    have i4 := form_five st
    -- form = FORMS[statement[0]]
    refine ⟨_, rfl, _, _, _, _, rfl, rfl, smT s1 hsa, at0, _, _, _, rfl, rfl, kd_form T st, ?_⟩
    -- items = [..]
    refine ⟨_, rfl, _, rfl, _, _, rfl, smT s1 hsa, cut_not, fun p hp => ?_⟩
    rw [cut_tail]
    have s2 : Same H (upd H2 p (.tup sxs)) := smNew s1 hp _
    refine ⟨_, rfl, _, sxs, _, rfl, SqT.of upd_same, fun D nD => ?_⟩
    refine lc_opt (walk_zipTS hl) (fun (d : PyData) y H => Dp K H y d ∧ noL d = true) (fun i => (st.flats ++ st.bodies.map fun b => .tuple (encB false b))[i]?) nD (small1000 (by omega)) (fun H' e => smT e (SqT.of upd_same))
      (fun _ _ _ _ h e => ⟨Dp.keep e h.1, h.2⟩) (fun _ _ _ _ _ h e => ⟨dp_ts (ts_upd _ e trivial) h.1 h.2, h.2⟩) ?_ ?_
    · rintro j x H3 H4 N hj e ⟨t, y, z, rfl, ht, rfl, hy, hz⟩ hk _
      obtain ⟨c, hc, rfl⟩ := Option.map_eq_some_iff.mp hz
      have hs := sign_at hc
      refine ⟨t, _, rfl, SqT.of upd_same, rfl, _, _, rfl, _, _, rfl, rfl, rfl, ?_⟩
      refine yesI ?_
      have s3 : Same H (upd H3 t (.tup [y, .str ⟨#[c]⟩])) := smNew (s2.trans e) ht _
      obtain ⟨d, hd3, hd4⟩ := DpAll.getV hsx hy
      by_cases c98 : c = 98
      · subst c98
        obtain ⟨bd, hbd, hat⟩ := sign98 hs
        rw [hat] at hd3
        obtain rfl := Option.some.inj hd3
        have d1 := dB_mem hm
        have d2 := dS_mem hbd
        have c1 := cB_mem hm
        have c2 := cS_mem hbd
        refine ⟨_, rfl, rfl, _, rfl, ifT (by rw [str_b, sgn]; rfl) ?_⟩
        refine ⟨_, rfl, fi, fi, bd, Dp.keep s3 hd4, by omega, by omega, fun v H5 s5 hv => ?_⟩
        exact hk _ _ _ (hat _) ((smNew1 ht _).trans s5) ⟨hv, noL_encB bd⟩
      · obtain ⟨df, hno, hat⟩ := signFlat hs c98
        rw [hat] at hd3
        obtain rfl := Option.some.inj hd3
        refine ⟨_, rfl, rfl, _, rfl, ifF (by rw [str_b, sgn]; exact decide_eq_false c98) ?_⟩
        exact ⟨_, rfl, hk _ _ _ (hat _) (smNew1 ht _) ⟨Dp.keep s3 hd4, hno⟩⟩
    · intro H3 ys e hD hp'
      rw [hl, ← show st.signs.length = st.form.cps.size by rw [← signs_eq]; rfl, ← items_len st (fun b => .tuple (encB false b)), some_range] at hp'
      have hys := paired_dp2 hp'
      have s4 : Same H2 H3 := fun b o z => e _ _ (smNew1 hp _ b o z)
      have s5 : Same H H3 := s1.trans s4
      -- found.append((statement[0],) + tuple(items))
      refine ⟨_, rfl, .inl ⟨rfl, _, SqL.of (s4 _ _ hacc)⟩, ?_⟩
      refine ⟨_, rfl, _, _, _, _, rfl, rfl, smT s5 hsa, at0, (by show 1 ≤ sizeLine; decide), fun p1 hp1 => ?_⟩
      refine ⟨_, rfl, D, _, rfl, .inl ⟨SqL.of (smNew1 hp1 _ _ _ hD), fun p2 hp2 => ?_⟩⟩
      have s6 : Same H3 (upd (upd H3 p1 (.tup [.str st.word])) p2 (.tup ys)) := smNew (smNew1 hp1 _) hp2 _
      have lys : ys.length ≤ 10 := by
        have e1 := DpAll.len hys
        rw [items_len, ← signs_eq] at e1
        have : st.form.cps.toList.length = st.form.cps.size := rfl
        omega
      refine catA_of (smT (smNew1 hp2 _) (SqT.of upd_same)) (SqT.of upd_same) (Nat.le_of_lt (small1000 (by show 1 + ys.length ≤ 1000; omega))) fun t H4 s7 ht => ?_
      have s8 : Same H3 H4 := s6.trans s7
      have hacc4 := s8 _ _ (s4 _ _ hacc)
      have l1 := (List.getElem?_eq_some_iff.mp hst).1
      refine ⟨fd, acc, .ref t, rfl, rfl, hacc4, small1000 (by have := DpAll.len hdp; rw [encB_map, List.length_map, List.length_take] at this; omega), ?_⟩
      have dpt : Dp K H4 (.ref t) (encS false st) := by
        rw [encS_eq]
        exact .tup ht (.cons (.str _) (by
          have : (st.flats ++ st.bodies.map fun b => seqD false (encB false b)) = (st.flats ++ st.bodies.map fun b => .tuple (encB false b)) := rfl
          rw [this]
          exact DpAll.keep s8 hys))
      have tsF : TS K H4 (upd H4 fd (.lst (acc ++ [.ref t]))) := ts_upd _ hacc4 trivial
      refine ⟨smOut (s5.trans s8) nfd _, ⟨_, upd_same, ?_⟩, _, _, _, _, _, rfl⟩
      rw [take_more hst, encB_map, List.map_append, ← encB_map]
      exact DpAll.snoc (dps_ts tsF (DpAll.keep (s4.trans s8) hdp) (noL_encB _)) (dp_ts tsF dpt (noL_encS st))
  · rintro σ H1 ⟨s1, ⟨acc, hacc, hdp⟩, v2, v3, v4, v5, v6, rfl⟩
    rw [lx, List.take_length] at hdp
    refine ⟨_, rfl, fd, acc, rfl, .inl ⟨SqL.of hacc, fun p hp => ?_⟩⟩
    have s2 : Same H1 (upd H1 p (.tup acc)) := smNew1 hp _
    exact q _ _ (s1.trans s2) (.tup (SqT.of upd_same) (DpAll.keep s2 hdp))
theorem c_as_tuples (T : Top w K mg) : ∀ n, Cal P w K mg base CX0 (n + 1) "as_tuples" (spAsT K n)
  | 0 => cal_never (f_as_tuples T) (g_as_tuples T) (ps := ["body"]) (fun _ _ _ _ _ _ us hl => match us, hl with | [_], _ => rfl) fun vs H Q E h => by
      match vs, h with
      | [b], h =>
      obtain ⟨fl, fi, l, _, hn, _⟩ := h
      have := dB_one l
      omega
  | n + 1 => ok_as_tuples T (c_as_tuples T n)
end
end RM

set_option Elab.async false
set_option linter.all false
set_option maxRecDepth 100000
set_option maxHeartbeats 2000000
namespace RM
open PySem PySem.Spec PyProof.Rows L2
section
variable {P : Program} {w : World} {K : PySem.W.Frag} {mg : Str → Option Value} {base : Heap}
/-! ### all_statements -/
def allD (as : List (List Int × Stm)) : List PyData := as.map fun q => .tuple [pathD q.1, encS false q.2]
theorem noL_allD (as : List (List Int × Stm)) : noLs (allD as) = true := noLs_of fun d h => by
  obtain ⟨q, _, rfl⟩ := List.mem_map.mp h
  show (noL (pathD q.1) && (noL (encS false q.2) && true)) = true
  rw [noL_path, noL_encS]
  rfl
theorem allD_app (a b : List (List Int × Stm)) : allD (a ++ b) = allD a ++ allD b := List.map_append
theorem allD_len (a : List (List Int × Stm)) : (allD a).length = a.length := List.length_map _
def spAll (K : PySem.W.Frag) (n : Nat) : Sp := fun vs H Q _ => match vs with
  | [b, p] => ∃ (l : List Stm) (pth : List Int), Dp K H b (.tuple (encB false l)) ∧ Dp K H p (pathD pth) ∧ dB l ≤ n ∧ cB l ≤ 1000 ∧ pth.length + 2 * n ≤ 1000 ∧
    ∀ r H' ys, Same H H' → H r = none → H' r = some (.lst ys) → DpAll K H' ys (allD (aB pth 0 l)) → Q (.ref r) H'
  | _ => False
theorem sc_all_statements : FnScope ["body", "path", "found", "place", "statement", "here", "number", "inner"] ["body", "path"] (defScope s_all_statements) := ⟨rfl, rfl, rfl, by decide +kernel, rfl, by decide +kernel, by decide +kernel⟩
theorem ok_all (T : Top w K mg) {n : Nat} (ih : Cal P w K mg base CX0 (n + 1) "all_statements" (spAll K n)) : Cal P w K mg base CX0 (n + 2) "all_statements" (spAll K (n + 1)) := by
  refine cal_0 (f_all_statements T) (g_all_statements T) sc_all_statements (fun _ _ _ _ _ _ us hl => match us, hl with | [_, _], _ => rfl) (fun vs H Q E h => match vs, h with | [_, _], _ => rfl) (fun cdv A outer s H vs Q E hr h => ?_)
  match vs, h with
  | [b, p], h =>
  obtain ⟨l, pth, hb, hp, hn, hc, hlen, q⟩ := h
  obtain ⟨a, xs, rfl, ha, hx⟩ := Dp.tup_inv hb
  have lx : xs.length = l.length := by rw [DpAll.len hx, encB_map, List.length_map]
  have ll := cB_len l
  refine ⟨_, (pss_cons (ps_set (i := 2) sc_all_statements.nd rfl (Or.inl rfl) (pe_lst pa_nil))
    (pss_cons (ps_for PassesOwn.never rfl (pi_enumA (by rfl) (z_enumerate T) (pa_cons (pv 0) pa_nil)) (pg_tup rfl (pgs_cons (pg_name (i := 3) sc_all_statements.nd rfl (Or.inl rfl)) (pgs_cons (pg_name (i := 4) sc_all_statements.nd rfl (Or.inl rfl)) pgs_nil)))
      (pss_cons (ps_set (i := 5) sc_all_statements.nd rfl (Or.inl rfl) (pe_op op_catG (pv 1) (pe_tup (pa_cons (pv 3) pa_nil))))
    (pss_cons (ps_expr (pe_bm PySem.F.plainAttrs_list PySem.F.slot_list_append PySem.F.type_list_append mt_append (pv 2) (pa_cons (pe_tup (pa_cons (pv 5) (pa_cons (pv 4) pa_nil))) pa_nil)))
    (pss_one (ps_for PassesOwn.never rfl (pi_enumA (by rfl) (z_enumerate T) (pa_cons (pc (c_bodies_of T) hr (pa_cons (pv 4) pa_nil)) pa_nil)) (pg_tup rfl (pgs_cons (pg_name (i := 6) sc_all_statements.nd rfl (Or.inl rfl)) (pgs_cons (pg_name (i := 7) sc_all_statements.nd rfl (Or.inl rfl)) pgs_nil)))
      (pss_one (ps_set (i := 2) sc_all_statements.nd rfl (Or.inl rfl) (pe_op op_cat (pv 2) (pc ih hr (pa_cons (pv 7) (pa_cons (pe_op op_catG (pv 5) (pe_tup (pa_cons (pv 6) pa_nil))) pa_nil)))))))))))
    (pss_one (ps_ret (pv 2))))), ?_⟩
  refine ⟨(by show 0 ≤ sizeLine; decide), fun fd nfd => ?_⟩
  refine ⟨_, rfl, ?_⟩
  refine enumA_of (.inr ha) (smNew1 nfd _) fun J wk => ?_
  refine for_it wk (fun i σ H' => Same H H' ∧ ∃ g acc, H g = none ∧ H' g = some (.lst acc) ∧ DpAll K H' acc (allD (aB pth 0 (l.take i))) ∧ ∃ v3 v4 v5 v6 v7, σ = [some (.ref a), some p, some (.ref g), v3, v4, v5, v6, v7])
    ⟨smNew1 nfd _, fd, [], nfd, upd_same, .nil, _, _, _, _, _, rfl⟩ (fun i σ H' _ h => h.1) ?_ ?_
  · rintro i x σ H1 H2 hi ⟨s1, g, acc, ng, hacc, hdp, v3, v4, v5, v6, v7, rfl⟩ ⟨t, y, z, rfl, ht, rfl, hy, hz⟩
    obtain rfl : V.int (i : Nat) = y := Option.some.inj hy
    obtain ⟨d, hd1, hd2⟩ := DpAll.getV hx hz
    obtain ⟨st, hst, rfl⟩ := encB_get hd1
    have hm : st ∈ l := List.mem_of_getElem? hst
    have l1 := (List.getElem?_eq_some_iff.mp hst).1
    have lt := cB_mem hm
    have s2 := smNew s1 ht (.tup [.int (i : Nat), z])
    refine ⟨t, _, rfl, SqT.of upd_same, rfl, _, _, rfl, _, _, rfl, rfl, ?_⟩
    -- here = path + (place,)
    obtain ⟨pa, rfl, hpa⟩ := path_inv (Dp.keep s2 hp)
    refine ⟨_, rfl, _, rfl, (by show 1 ≤ sizeLine; decide), fun p1 hp1 => ?_⟩
    refine path_snoc (smT (smNew1 hp1 _) hpa) (SqT.of upd_same) (Nat.le_of_lt (small1000 (by omega))) fun here H3 s3 hh => ?_
    have t3 : Same H1 H3 := (smNew (smNew1 ht _) hp1 _).trans s3
    have s4 : Same H H3 := s1.trans t3
    -- found.append((here, statement))
    refine ⟨_, rfl, .inl ⟨rfl, _, SqL.of (t3 _ _ hacc)⟩, ?_⟩
    refine ⟨_, rfl, _, rfl, (by show 2 ≤ sizeLine; decide), fun p2 hp2 => ?_⟩
    have t5 := smNew t3 hp2 (.tup [here, z])
    have lacc : acc.length = (aB pth 0 (l.take i)).length := by rw [DpAll.len hdp, allD_len]
    have lim : ∀ j, (aB pth 0 (l.take j)).length ≤ 1000 := fun j => by
      have e : aB pth 0 l = aB pth 0 (l.take j) ++ aB pth (0 + (l.take j).length) (l.drop j) := by rw [← aB_app, List.take_append_drop]
      have e2 := congrArg List.length e
      rw [aB_len, List.length_append] at e2
      omega
    have lim0 := lim i
    refine ⟨g, acc, _, rfl, rfl, t5 _ _ hacc, small1000 (by omega), ?_⟩
    obtain ⟨H5, e5⟩ : ∃ H5, H5 = upd (upd H3 p2 (.tup [here, z])) g (.lst (acc ++ [.ref p2])) := ⟨_, rfl⟩
    rw [← e5]
    have ts5 : TS K (upd H3 p2 (.tup [here, z])) H5 := by rw [e5]; exact ts_upd _ (t5 _ _ hacc) trivial
    have hg5 : H5 g = some (.lst (acc ++ [.ref p2])) := by rw [e5]; exact upd_same
    have s5 : Same H H5 := by rw [e5]; exact smOut (smNew s4 hp2 _) ng _
    have dh5 : Dp K H5 here (pathD (pth ++ [(i : Int)])) := dp_ts ts5 (Dp.keep (smNew1 hp2 _) hh) (noL_path _)
    have dq : Dp K (upd H3 p2 (.tup [here, z])) (.ref p2) (.tuple [pathD (pth ++ [(i : Int)]), encS false st]) :=
      .tup (SqT.of upd_same) (.cons (Dp.keep (smNew1 hp2 _) hh) (.cons (Dp.keep (smNew s4 hp2 _) hd2) .nil))
    have d5 : DpAll K H5 (acc ++ [.ref p2]) (allD (aB pth 0 (l.take i) ++ (pth ++ [(i : Int)], st) :: aBs (pth ++ [(i : Int)]) 0 (st.bodies.take 0))) := by
      rw [allD_app]
      exact dps_ts ts5 (DpAll.snoc (DpAll.keep t5 hdp) dq) (noLs_app (noL_allD _) (by
        show (noL (.tuple [pathD (pth ++ [(i : Int)]), encS false st]) && true) = true
        show ((noL (pathD (pth ++ [(i : Int)])) && (noL (encS false st) && true)) && true) = true
        rw [noL_path, noL_encS]
        rfl))
    -- for number, inner in enumerate(bodies_of(statement))
    refine ⟨_, rfl, false, st, Dp.keep s5 hd2, fun pb H6 ys e6 npb hpb hys => ?_⟩
    refine enumA_of (.inl (SqL.of hpb)) (Same.refl _) fun J2 wk2 => ?_
    have ly : ys.length = st.bodies.length := by rw [DpAll.len hys, List.length_map]
    refine for_it wk2 (fun j σ H' => Same H6 H' ∧ ∃ g2 acc2, H g2 = none ∧ H' g2 = some (.lst acc2) ∧ DpAll K H' acc2 (allD (aB pth 0 (l.take i) ++ (pth ++ [(i : Int)], st) :: aBs (pth ++ [(i : Int)]) 0 (st.bodies.take j))) ∧
        ∃ v6 v7, σ = [some (.ref a), some (.ref pa), some (.ref g2), some (.int (i : Nat)), some z, some here, v6, v7])
      ⟨Same.refl H6, g, _, ng, e6 _ _ hg5, DpAll.keep e6 d5, _, _, rfl⟩ (fun _ _ _ _ h => h.1) ?_ ?_
    · rintro j x2 σ2 H7 H8 hj ⟨s7, g2, acc2, ng2, hacc2, hdp2, w6, w7, rfl⟩ ⟨t2, y2, z2, rfl, ht2, rfl, hy2, hz2⟩
      obtain rfl : V.int (j : Nat) = y2 := Option.some.inj hy2
      obtain ⟨d2, hd3, hd4⟩ := DpAll.getV hys hz2
      rw [List.getElem?_map] at hd3
      obtain ⟨bd, hbd, rfl⟩ := Option.map_eq_some_iff.mp hd3
      have hmb : bd ∈ st.bodies := List.mem_of_getElem? hbd
      have t8 := smNew1 ht2 (.tup [.int (j : Nat), z2])
      refine ⟨t2, _, rfl, SqT.of upd_same, rfl, _, _, rfl, _, _, rfl, rfl, ?_⟩
      -- found = found + all_statements(inner, here + (number,))
      have s8 : Same H5 (upd H7 t2 (.tup [.int (j : Nat), z2])) := (e6.trans s7).trans t8
      obtain ⟨ha2, rfl, hha⟩ := path_inv (Dp.keep s8 dh5)
      refine ⟨_, rfl, _, rfl, _, rfl, _, rfl, (by show 1 ≤ sizeLine; decide), fun p3 hp3 => ?_⟩
      refine path_snoc (smT (smNew1 hp3 _) hha) (SqT.of upd_same) (Nat.le_of_lt (small1000 (by rw [List.length_append]; show pth.length + 1 + 1 ≤ 1000; omega))) fun hv H9 s9 hhv => ?_
      have t9 : Same H7 H9 := (smNew t8 hp3 _).trans s9
      have d1 := dB_mem hm
      have d2' := dS_mem hmb
      have c2 := cS_mem hmb
      have hd5 := Dp.keep (e6.trans (s7.trans t9)) hd4
      refine ⟨bd, _, hd5, hhv, by omega, by omega, by rw [List.length_append, List.length_append]; show pth.length + 1 + 1 + 2 * n ≤ 1000; omega, fun r H10 zs e10 nr hr2 hzs => ?_⟩
      have t10 : Same H7 H10 := t9.trans e10
      have lz : zs.length = cB bd := by rw [DpAll.len hzs, allD_len, aB_len]
      have la2 : acc2.length ≤ 1000 := by
        have e1 := DpAll.len hdp2
        rw [allD_len] at e1
        have e2 : aB pth 0 (l.take (i + 1)) = aB pth 0 (l.take i) ++ (pth ++ [(i : Int)], st) :: aBs (pth ++ [(i : Int)]) 0 st.bodies := by rw [aB_take hst, aS_eq]
        have e3 : aBs (pth ++ [(i : Int)]) 0 st.bodies = aBs (pth ++ [(i : Int)]) 0 (st.bodies.take j) ++ aBs (pth ++ [(i : Int)]) (0 + (st.bodies.take j).length) (st.bodies.drop j) := by rw [← aBs_app, List.take_append_drop]
        have e4 := lim (i + 1)
        rw [e2, e3, List.length_append, List.length_cons, List.length_append] at e4
        rw [List.length_append, List.length_cons] at e1
        omega
      refine ⟨g2, r, acc2, zs, rfl, rfl, t10 _ _ hacc2, hr2, Nat.le_of_lt (Nat.lt_of_le_of_lt (show acc2.length + zs.length ≤ 2000 by omega) (by decide)), fun pn hpn => ?_⟩
      have t11 := smNew t10 hpn (.lst (acc2 ++ zs))
      refine ⟨s7.trans t11, pn, _, ?_, upd_same, ?_, _, _, rfl⟩
      · exact (s5.trans (e6.trans (s7.trans t10))).free hpn
      · rw [aBs_take hbd, ← List.cons_append, ← List.append_assoc, allD_app]
        exact DpAll.app (DpAll.keep t11 hdp2) (DpAll.keep (smNew1 hpn _) hzs)
    · rintro σ2 H7 ⟨s7, g2, acc2, ng2, hacc2, hdp2, w6, w7, rfl⟩
      rw [ly, List.take_length, ← aS_eq, ← aB_take hst] at hdp2
      exact ⟨s5.trans (e6.trans s7), g2, acc2, ng2, hacc2, hdp2, _, _, _, _, _, rfl⟩
  · rintro σ H1 ⟨s1, g, acc, ng, hacc, hdp, v3, v4, v5, v6, v7, rfl⟩
    rw [lx, List.take_length] at hdp
    exact ⟨_, rfl, q g H1 acc s1 ng hacc hdp⟩
theorem c_all_statements (T : Top w K mg) : ∀ n, Cal P w K mg base CX0 (n + 1) "all_statements" (spAll K n)
  | 0 => cal_never (f_all_statements T) (g_all_statements T) (ps := ["body", "path"]) (fun _ _ _ _ _ _ us hl => match us, hl with | [_, _], _ => rfl) fun vs H Q E h => by
      match vs, h with
      | [b, p], h =>
      obtain ⟨l, pth, _, _, hn, _⟩ := h
      have := dB_one l
      omega
  | n + 1 => ok_all T (c_all_statements T n)
/-! ### depth_of -/
def spDepth (K : PySem.W.Frag) (n : Nat) : Sp := fun vs H Q _ => match vs with
  | [b] => ∃ (l : List Stm), Dp K H b (.tuple (encB false l)) ∧ dB l ≤ n ∧ ∀ H', Same H H' → Q (.int (dB l : Nat)) H'
  | _ => False
theorem sc_depth_of : FnScope ["body", "deepest", "statement", "inner"] ["body"] (defScope s_depth_of) := ⟨rfl, rfl, rfl, by decide +kernel, rfl, by decide +kernel, by decide +kernel⟩
theorem ok_depth (T : Top w K mg) {n : Nat} (ih : Cal P w K mg base CX0 (n + 1) "depth_of" (spDepth K n)) : Cal P w K mg base CX0 (n + 2) "depth_of" (spDepth K (n + 1)) := by
  refine cal_0 (f_depth_of T) (g_depth_of T) sc_depth_of (fun _ _ _ _ _ _ us hl => match us, hl with | [_], _ => rfl) (fun vs H Q E h => match vs, h with | [_], _ => rfl) (fun cdv A outer s H vs Q E hr h => ?_)
  match vs, h with
  | [b], h =>
  obtain ⟨l, hb, hn, q⟩ := h
  obtain ⟨a, xs, rfl, ha, hx⟩ := Dp.tup_inv hb
  have lx : xs.length = l.length := by rw [DpAll.len hx, encB_map, List.length_map]
  refine ⟨_, (pss_cons (ps_set (i := 1) sc_depth_of.nd rfl (Or.inl rfl) pe_int)
    (pss_cons (ps_for PassesOwn.never rfl (pi_seqA (pv 0)) (pg_name (i := 2) sc_depth_of.nd rfl (Or.inl rfl))
      (pss_one (ps_for PassesOwn.never rfl (pi_seqA (pc (c_bodies_of T) hr (pa_cons (pv 2) pa_nil))) (pg_name (i := 3) sc_depth_of.nd rfl (Or.inl rfl))
      (pss_one (ps_set (i := 1) sc_depth_of.nd rfl (Or.inl rfl) (pcb (z_max T) (call_max2 rfl) boot_max (pa_cons (pv 1) (pa_cons (pc ih hr (pa_cons (pv 3) pa_nil)) pa_nil))))))))
    (pss_one (ps_ret (pe_op op_add (pv 1) pe_int))))), ?_⟩
  refine ⟨_, rfl, ?_⟩
  refine seqA_of (.inr ha) (Same.refl _) fun J wk => ?_
  refine for_it wk (fun i σ H' => Same H H' ∧ ∃ v2 v3, σ = [some (.ref a), some (.int ((dB (l.take i) : Nat) - 1 : Int)), v2, v3]) ⟨Same.refl H, none, none, rfl⟩ (fun i σ H' _ h => h.1) ?_ ?_
  · rintro i x σ H1 H2 hi ⟨s1, v2, v3, rfl⟩ ⟨rfl, hx1⟩
    obtain ⟨d, hd1, hd2⟩ := DpAll.getV hx hx1
    obtain ⟨st, hst, rfl⟩ := encB_get hd1
    have hm : st ∈ l := List.mem_of_getElem? hst
    have d1 := dB_mem hm
    refine ⟨_, rfl, false, st, Dp.keep s1 hd2, fun pb H3 ys e3 npb hpb hys => ?_⟩
    have ly : ys.length = st.bodies.length := by rw [DpAll.len hys, List.length_map]
    refine seqA_of (.inl (SqL.of hpb)) (Same.refl _) fun J2 wk2 => ?_
    have o1 := dB_one (l.take i)
    refine for_it wk2 (fun j σ H' => Same H3 H' ∧ ∃ v3, σ = [some (.ref a), some (.int ((max (dB (l.take i) - 1) (dBs (st.bodies.take j)) : Nat) : Int)), some x, v3]) ⟨Same.refl H3, v3, ?_⟩ (fun _ _ _ _ h => h.1) ?_ ?_
    · have e : ((max (dB (l.take i) - 1) (dBs (st.bodies.take 0)) : Nat) : Int) = ((dB (l.take i) : Nat) : Int) - 1 := by
        show ((max (dB (l.take i) - 1) 0 : Nat) : Int) = _
        omega
      rw [e]
      rfl
    · rintro j x2 σ2 H4 H5 hj ⟨s4, w3, rfl⟩ ⟨rfl, hx2⟩
      obtain ⟨d2, hd3, hd4⟩ := DpAll.getV hys hx2
      rw [List.getElem?_map] at hd3
      obtain ⟨bd, hbd, rfl⟩ := Option.map_eq_some_iff.mp hd3
      have d2' := dS_mem (List.mem_of_getElem? hbd)
      have hd5 := Dp.keep (e3.trans s4) hd4
      refine ⟨_, rfl, _, rfl, bd, hd5, by omega, fun H6 e6 => ?_⟩
      refine ⟨_, _, rfl, s4.trans e6, some x2, ?_⟩
      rw [take_more hbd, dBs_snoc]
      have e : (if ((dB bd : Nat) : Int) > ((max (dB (l.take i) - 1) (dBs (st.bodies.take j)) : Nat) : Int) then ((dB bd : Nat) : Int) else ((max (dB (l.take i) - 1) (dBs (st.bodies.take j)) : Nat) : Int)) =
          ((max (dB (l.take i) - 1) (max (dBs (st.bodies.take j)) (dB bd)) : Nat) : Int) := by
        split <;> omega
      rw [← e]
      rfl
    · rintro σ2 H4 ⟨s4, w3, rfl⟩
      refine ⟨s1.trans (e3.trans s4), some x, w3, ?_⟩
      rw [ly, List.take_length, ← dS_eq, take_more hst, dB_snoc]
      have e : ((max (dB (l.take i) - 1) (dS st) : Nat) : Int) = ((max (dB (l.take i)) (dS st + 1) : Nat) : Int) - 1 := by omega
      rw [e]
  · rintro σ H1 ⟨s1, v2, v3, rfl⟩
    refine ⟨_, rfl, _, _, rfl, rfl, ?_⟩
    have e : V.int (((dB (l.take xs.length) : Nat) : Int) - 1 + 1) = V.int ((dB l : Nat) : Int) := by
      rw [lx, List.take_length]
      exact congrArg V.int (by omega)
    show Q (V.int (((dB (l.take xs.length) : Nat) : Int) - 1 + 1)) H1
    rw [e]
    exact q H1 s1
theorem c_depth_of (T : Top w K mg) : ∀ n, Cal P w K mg base CX0 (n + 1) "depth_of" (spDepth K n)
  | 0 => cal_never (f_depth_of T) (g_depth_of T) (ps := ["body"]) (fun _ _ _ _ _ _ us hl => match us, hl with | [_], _ => rfl) fun vs H Q E h => by
      match vs, h with
      | [b], h =>
      obtain ⟨l, _, hn, _⟩ := h
      have := dB_one l
      omega
  | n + 1 => ok_depth T (c_depth_of T n)
end
end RM

set_option Elab.async false
set_option linter.all false
set_option maxRecDepth 100000
set_option maxHeartbeats 2000000
/-! sets of texts that can be walked: which texts, not their order -/
namespace RM
open PySem PySem.Spec PyProof.Rows L2 PySem.Froz
/-! ### the table: it rises, and its order is told -/
def Wk (w : World) (t : SetTable) : Prop := Ris t.place.toList ∧ (w.params.followText "set-order" = true ∨ t.led = true)
theorem Wk.of {w : World} {t u : SetTable} (k : Wk w t) (h : Ris t.place.toList → Ris u.place.toList) (e : u.led = t.led) : Wk w u := ⟨h k.1, k.2.imp_right fun l => by rw [e, l]⟩
theorem Wk.tail {w : World} {ep : Nat} {es : Array (Int × Value)} {t : SetTable} {b : Bool} (k : Wk w t) : Wk w (tailTx ep es t b).2.2 := by
  by_cases c : (!b && t.tooFull) = true
  · rw [tailTx, if_pos c]
    exact k.of (fun _ => relayAll_ris t es _) (relayAll_led t es _)
  · rw [tailTx, if_neg c]
    exact k
theorem Wk.add {w : World} {z : Int} {v : Value} {D : SD} (k : Wk w D.2.2) : Wk w (addTx z v D).2.2 := by
  rw [addTx]
  have k1 : Wk w (layNew D.2.2 D.1 z v).2.1 := k.of (layNew_ris D.2.2 D.1 z v) (layNew_led D.2.2 D.1 z v)
  by_cases c : (layNew D.2.2 D.1 z v).2.1.plain = true
  · rw [if_pos c]
    exact Wk.tail (t := { (layNew D.2.2 D.1 z v).2.1 with plain := false }) ⟨k1.1, k1.2⟩
  · rw [if_neg c]
    exact k1.tail
/-! ### what is known of such a set -/
structure Txs (P : Program) (w : World) (D : SD) (l : List Str) : Prop where
  ok : TxOk P w D l
  nd : l.Nodup
  wk : Wk w D.2.2
  few : l.length < scanBound
/-- at a stands a set of the texts l -/
def SX (P : Program) (w : World) (h : Heap) (a : Addr) (l : List Str) : Prop := ∃ D : SD, h.get? a = some (sObj "set" D) ∧ Txs P w D l
/-- an empty set as the world makes it -/
abbrev bareX (w : World) : Obj := { cls := .type "set", dict := none, data := .set #[] 0 (.fresh 0 0 (!w.params.followText "set-order")) }
section
variable {P : Program} {w : World} {h h' : Heap} {a : Addr} {l : List Str}
theorem SX.at (R : SX P w h a l) (k : ∀ o, h.get? a = some o → h'.get? a = some o) : SX P w h' a l := R.imp fun _ q => ⟨k _ q.1, q.2⟩
theorem SX.some (R : SX P w h a l) : ∃ o, h.get? a = some o := let ⟨_, e, _⟩ := R; ⟨_, e⟩
theorem sx_fresh (e : h.get? a = some (bareX w)) : SX P w h a [] := by
  refine ⟨(#[], 0, .fresh 0 0 (!w.params.followText "set-order")), e, .nil rfl, List.nodup_nil, ⟨List.Pairwise.nil, ?_⟩, by decide⟩
  by_cases c : w.params.followText "set-order" = true
  · exact .inl c
  · exact .inr (by show (!w.params.followText "set-order") = true; rw [Bool.not_eq_true] at c; rw [c]; rfl)
end
/-- k put to l, if it isn't there -/
def insX (k : Str) (l : List Str) : List Str := if k ∈ l then l else k :: l
theorem insX_mem {k x : Str} {l : List Str} : x ∈ insX k l ↔ x = k ∨ x ∈ l := by
  rw [insX]
  by_cases c : k ∈ l
  · rw [if_pos c]
    exact ⟨Or.inr, fun z => z.elim (fun e => e ▸ c) id⟩
  · rw [if_neg c, List.mem_cons]
theorem insX_len {k : Str} {l : List Str} : (insX k l).length ≤ l.length + 1 := by
  rw [insX]
  by_cases c : k ∈ l
  · rw [if_pos c]; omega
  · rw [if_neg c]; exact Nat.le_refl _
/-! ### a text put in -/
section
variable {P : Program} {w : World} {A : Around} {E : Value → Shared → Prop} {s : Shared} {a : Addr} {l : List Str} {k : Str} {u : Tok}
theorem texts_at {D : SD} (F : TxOk P w D l) (hk : k ∈ l) : ∃ j, List.findIdx? (fun e => (strKind P w).is k e.2) D.1.toList = some j := by
  obtain ⟨e, he, z⟩ := (F.mem k).mp hk
  rw [← Option.isSome_iff_exists, List.findIdx?_isSome, List.any_eq_true]
  exact ⟨e, he, z⟩
/-- one that is there already: nothing happens -/
theorem again_x {D : SD} {Q : Bool → Shared → Prop} (e : s.heap.get? a = some (sObj "set" D)) (F : Txs P w D l) (hk : k ∈ l) (q : Q false s) : wpAny (model P w) A (setAddHashed a (.str k u) (hashStr w k)) Q E s := by
  obtain ⟨j, hj⟩ := texts_at F.ok hk
  have few : D.1.size < scanBound := by rw [F.ok.sz]; exact F.few
  unfold setAddHashed setAddHashedIn
  refine wpAny_holding (wpAny_bind (wpAny_setState_of (es := D.1) (ep := D.2.1) (t := D.2.2) e rfl F.ok.fit ?_))
  dsimp only
  rw [byScan_of (knd := strKind P w) (x := Value.str k u) rfl few F.ok.el]
  rw [if_pos rfl]
  unfold setAddByScan
  refine wpAny_bind (wpAny_bind (wpAny_rule (wpAny_bind (wpAny_setScan_of (knd := strKind P w) (k := k) (es := D.1) (ep := D.2.1) (t := D.2.2) (is_str k u) e rfl F.ok.fit F.ok.el ?_))))
  rw [hj]
  exact wpAny_pure (wpAny_pure q)
/-- setAdd's step behind the hash -/
theorem put_x {Q : Bool → Shared → Prop} (R : SX P w s.heap a l) (room : l.length + 1 < scanBound) (q : ∀ b h', Heap.SameBut a s.heap h' → SX P w h' a (insX k l) → Q b { s with heap := h' }) :
    wpAny (model P w) A (setAddHashed a (.str k u) (hashStr w k)) Q E s := by
  obtain ⟨D, e, F⟩ := id R
  rw [insX] at q
  by_cases c : k ∈ l
  · rw [if_pos c] at q
    exact again_x e F c (q false s.heap (Heap.SameBut.refl a _) R)
  · rw [if_neg c] at q
    refine add_x e F.ok c room (q true _ (Heap.SameBut.update _ _ _) ⟨_, get_upd _ e rfl, add_ok u F.ok, List.nodup_cons.mpr ⟨c, F.nd⟩, F.wk.add, ?_⟩)
    rw [List.length_cons]
    exact room
/-- the whole of setAdd -/
theorem setAdd_x {Q : Bool → Shared → Prop} (R : SX P w s.heap a l) (room : l.length + 1 < scanBound) (q : ∀ b h', Heap.SameBut a s.heap h' → SX P w h' a (insX k l) → Q b { s with heap := h', toks := s.toks + 1 }) :
    wpAny (model P w) A (setAdd a (.str k u)) Q E s := by
  unfold setAdd
  exact wpAny_holding (wpAny_bind ((strKind P w).pyHash (is_str k u) (put_x (s := { s with toks := s.toks + 1 }) R room q)))
/-- s.add(text) -/
theorem call_add_x {Q : Value → Shared → Prop} (R : SX P w s.heap a l) (room : l.length + 1 < scanBound) (q : ∀ h', Heap.SameBut a s.heap h' → SX P w h' a (insX k l) → Q .none { s with heap := h', toks := s.toks + 1 }) :
    wpAny (model P w) A (call (.builtin "set.add") [.ref a, .str k u]) Q E s := by
  have ty : s.TypeIs (.ref a) "set" := let ⟨_, e, _⟩ := R; ⟨_, e, rfl⟩
  refine wpAny_call_entry F.slot_set_add ty F.entry_set_add ?_ (F.args_set_add_2 _ _)
  show wpAny _ _ (setAdd a (.str k u) >>= fun _ => ret Value.none) _ _ s
  exact wpAny_bind (setAdd_x R room fun _ h' sb r => wpAny_pure ⟨_, rfl, q h' sb r⟩)
end
/-! ### as a tracked thing -/
def SetX (P : Program) (w : World) (a : Addr) (l : List Str) : HO := .ext fun h => SX P w h a l
theorem setX_new {P : Program} {w : World} {H : Hp} {h : Heap} {a : Addr} {l : List Str} (R : SX P w h a l) : ObjOk P w H h a (SetX P w a l) := ⟨R, R.some, fun _ _ p k => SX.at p k⟩
section
variable {X : Cx} {pins : List (Addr × Obj)} {σ : L2.St} {H : Hp} {s : Shared}
theorem Txs.of {a : Addr} {l : List Str} (I : Inv X pins σ H s) (e : H a = some (SetX X.prog X.w a l)) : SX X.prog X.w s.heap a l := (I.hok a _ e).1
theorem addX_ok {E : Value → Shared → Prop} {A : Around} {D : Addr} {l : List Str} {k : Str} {u : Tok} {Q : Value → Shared → Prop} (I : Inv X pins σ H s) (hD : H D = some (SetX X.prog X.w D l)) (room : l.length + 1 < scanBound)
    (q : ∀ s', Inv X pins σ (upd H D (SetX X.prog X.w D (insX k l))) s' → Q .none s') : wpAny (model X.prog X.w) A (call (.builtin "set.add") [.ref D, .str k u]) Q E s :=
  call_add_x (Txs.of I hD) room fun _ sb R => q _ (I.write (by rw [hD]; trivial) (.inl rfl) (fun b o ne e => by rw [sb.2 b ne]; exact e) R.some (setX_new R))
end
end RM

set_option Elab.async false
set_option linter.all false
set_option maxRecDepth 100000
set_option maxHeartbeats 4000000
/-! set comprehensions, clause by clause: one theorem of a clause's loop, whatever stands behind its tests -/
namespace RM
open PySem PySem.Spec PyProof.Rows L2 PpSet
/-- the slots that the block keeps are known still -/
def Kept (σ σ' : L2.St) : Prop := ∀ (j : Nat) v, σ[j]? = some (some v) → σ'[j]? = some (some v)
theorem kept_wipe (σ : L2.St) (vs : List Nat) : Kept (wipe σ vs) σ := fun _ _ e => (wipe_some e).1
theorem kept_less {σ : L2.St} {vs ws : List Nat} (h : ∀ i ∈ ws, i ∈ vs) : Kept (wipe σ vs) (wipe σ ws) := fun j v e => by
  obtain ⟨e1, e2⟩ := wipe_some e
  rw [wipe_out fun z => e2 (h j z), e1]
/-- one turn's text: `work` behind the tests -/
def turnText (e : Expr) (k : Nat) (tg : Expr) (p : Pos) (ifs : List Expr) (work : Sem Unit) (it acc : Value) (env : Env) : Sem Fin :=
  standAt p >>= fun _ => pyNext it >>= fun r => match r with
    | none => pure (.done .next)
    | some v => letOwnedTupleGo tg it v >>= fun _ => assign tg env v >>= fun _ =>
      (forIn ifs true fun c r => if r = true then isTrue c env (eval c env) >>= fun ok => pure (ForInStep.yield ok) else pure (ForInStep.yield r)) >>= fun ok =>
        if ok = true then work >>= fun _ => again (.compLoop e k it acc env) else again (.compLoop e k it acc env)
section
variable {Y : Cx} {elt : Expr} {gens : List Comprehension} {scope : Scope} {pos : Pos} {k : Nat} {tg : Expr} {p : Pos} {ifs : List Expr} {work : Sem Unit} {it : Addr} {acc : Value} {pins : List (Addr × Obj)} {fp : List Addr} {tn : Nat → Heap → Prop} {J : It}
  {g : TG} {tt : TT} {wk : L2.St → Hp → (Hp → Prop) → Prop} {σ0 : L2.St} {vs : List Nat} {W : Nat → Nat → Hp → Prop} {fin : Hp → Prop} {R : Result → Shared → Prop}
theorem clause_loop (hY : Y.xe = fun _ _ => False) (hc : Y.calm = true) (he : compTurn (.SetComp elt gens scope pos) k (.ref it) acc Y.env = turnText (.SetComp elt gens scope pos) k tg p ifs work (.ref it) acc Y.env)
    (T : Turn Y.prog Y.w Y.K tg J fp it tn) (own : ∀ b ∈ fp, ∃ H, FpOk Y pins H b) (pg : PG Y tg g) (pt : PTs Y ifs tt)
    (pw : ∀ pl σ H N s, Inv Y (pins ++ pl) σ H s → wk σ H N → wpAny (model Y.prog Y.w) Y.A work (fun _ s' => ∃ σ' H', Inv Y (pins ++ pl) σ' H' s' ∧ Kept (wipe σ vs) σ' ∧ N H') (fun _ _ => False) s)
    (tu : Turns J g tt wk σ0 vs W fin) (hR : ∀ H s, Inv Y pins σ0 H s → fin H → R (.ok .next) s) {m i : Nat} {H : Hp} {s : Shared} (I : Inv Y pins σ0 H s) (st : tn i s.heap) (fr : ∀ b ∈ fp, H b = none) (w : W i m H) :
    codeAny (model Y.prog Y.w) Y.A (.compLoop (.SetComp elt gens scope pos) k (.ref it) acc Y.env) R s := by
  have out : ∀ {H : Hp}, (∀ b ∈ fp, H b = none) → ∀ b ∈ fp, FpOk Y pins H b := fun f b hb => let ⟨_, z⟩ := own b hb; ⟨f b hb, z.2⟩
  refine codeAny_loop rfl (fun n s' => ∃ i H', Inv Y pins σ0 H' s' ∧ tn i s'.heap ∧ (∀ b ∈ fp, H' b = none) ∧ W i n H') ?_ m ⟨i, H, I, st, fr, w⟩
  clear I st fr w
  rintro n s ⟨i, H, I, st, fr, w⟩
  show wpAny _ Y.A ((compTurn (.SetComp elt gens scope pos) k (.ref it) acc Y.env).onRaise fun x => noteFrame x Y.env >>= fun _ => theTreesLotGoes x) _ _ s
  refine wpAny_noted ?_
  rw [he, turnText]
  refine wpAny_bind (wpAny_standAt (wpAny_bind ?_))
  rcases tu i n H w with ⟨stop, q⟩ | ⟨go, N, hN, step⟩
  · refine thnF (T.done Y rfl rfl rfl hc i pins s σ0 H _ I (out fr) st stop) fun r s1 z => ?_
    rw [z.1]
    exact wpAny_pure (hR H s1 z.2 q)
  refine thnF (T.item Y rfl rfl rfl hc i pins s σ0 H _ I (out fr) st go) fun r s1 z => ?_
  obtain ⟨u, rfl, z⟩ := z
  refine wpAny_bind (thnF z fun _ s2 z => ?_)
  obtain ⟨x, H2, I2, rx, y, st2, fr2⟩ := z
  -- what a turn's end asks
  have fine : ∀ {σ' : L2.St} {H' : Hp} {s' : Shared}, Inv Y (pins ++ pinsAt fp s2.heap) σ' H' s' → Kept σ0 σ' → N H' → ∃ n', n' < n ∧ ∃ i H', Inv Y pins σ0 H' s' ∧ tn i s'.heap ∧ (∀ b ∈ fp, H' b = none) ∧ W i n' H' := by
    intro σ' H' s' I' kp nx
    obtain ⟨n', lt, w'⟩ := hN H' nx
    have stays : ∀ b ∈ fp, ∀ o, s2.heap.get? b = some o → s'.heap.get? b = some o ∧ H' b = none := fun b hb o eo => by
      obtain ⟨p1, p2, _⟩ := I'.pin (b, o) (List.mem_append.mpr (.inr (List.mem_append.mpr (.inr (mem_pinsAt hb eo)))))
      exact ⟨p1, p2⟩
    refine ⟨n', lt, i + 1, H', I'.unpinned.weak (I.len.trans I'.len.symm) kp, T.keep _ _ _ st2 fun b hb o eo => (stays b hb o eo).1, fun b hb => ?_, w'⟩
    obtain ⟨o, eo, _⟩ := T.obj _ _ st2 b hb
    exact (stays b hb o eo).2
  have pgr := pg.run _ s2 σ0 H2 x u _ (I2.pinned (out fr2) (T.obj _ _ st2)) rx (step x H2 y)
  rw [hY] at pgr
  refine wpAny_bind (thnF pgr fun _ s3 z => ?_)
  obtain ⟨σ3, H3, I3, e3, z⟩ := z
  have ptr := pt.run _ s3 σ3 H3 _ I3 z
  rw [hY] at ptr
  refine wpAny_bind (thnF ptr fun b s4 z => ?_)
  obtain ⟨H4, I4, z⟩ := z
  by_cases hb : b = true
  · rw [if_pos hb] at z ⊢
    refine wpAny_bind (thnF (pw _ σ3 H4 N s4 I4 z) fun _ s5 z => ?_)
    obtain ⟨σ5, H5, I5, kp, nx⟩ := z
    exact wpAny_pure ⟨rfl, fine I5 (e3 ▸ kp) nx⟩
  · rw [if_neg hb] at z ⊢
    exact wpAny_pure ⟨rfl, fine I4 (e3 ▸ kept_wipe σ3 vs) z⟩
end
/-- a clause's start: its iterator is asked for itself, or not; the loop then -/
theorem clause_start {P : Program} {w : World} {A : Around} {R : Result → Shared → Prop} {s : Shared} {elt : Expr} {gens : List Comprehension} {scope : Scope} {pos : Pos} {k : Nat} {g : Comprehension} {it acc : Value} {env : Env}
    (hg : gens[k]? = some g) (ha : g.is_async = 0) (self : ∀ (Q : Value → Shared → Prop) (E : Value → Shared → Prop), Q it s → wpAny (model P w) A (pyIter it) Q E s)
    (loop : codeAny (model P w) A (.compLoop (.SetComp elt gens scope pos) k it acc env) R s) : codeAny (model P w) A (.compStart (.SetComp elt gens scope pos) k it acc env) R s := by
  refine codeAny_of_tree ?_
  show wpAny _ A ((compStart (.SetComp elt gens scope pos) k it acc env).onRaise fun x => noteFrame x env >>= fun _ => standAt theWindowsPlace) _ _ s
  refine wpAny_notedAt ?_
  have hk : (clausesOf (.SetComp elt gens scope pos))[k]? = some g := hg
  unfold compStart
  rw [hk]
  have hn : ((some g).elim false fun c : Comprehension => c.is_async != 0) = false := by
    show (g.is_async != 0) = false
    rw [ha]; rfl
  rw [hn]
  show wpAny _ _ (ask >>= _) _ _ s
  refine wpAny_bind (wpAny_askSetting ?_)
  show wpAny _ _ (if w.params.followText "comprehension-iter-twice" = true then _ else _) _ _ s
  by_cases c : w.params.followText "comprehension-iter-twice" = true
  · rw [if_pos c]
    exact wpAny_bind (wpAny_pure (wpAny_pure ⟨rfl, loop⟩))
  · rw [if_neg c]
    exact wpAny_bind (wpAny_rule (wpAny_bind (wpAny_standAt (wpAny_bind (self _ _ (wpAny_pure ⟨rfl, loop⟩))))))
section
variable {X : Cx}
/-- in each block with this scope -/
abbrev InBlk (X : Cx) (scope : Scope) (F : Cx → Prop) : Prop := ∀ s H C cl fp, F (X.blk s H scope (compEnvC scope cl C X.env) fp)
/-- a new text is put to D -/
abbrev addsX (P : Program) (w : World) (D : Addr) (te : TE) : L2.St → Hp → (Hp → Prop) → Prop := fun σ H N => te σ H fun y H1 => ∃ (c : Str) (l : List Str), y = .str c ∧ H1 D = some (SetX P w D l) ∧ l.length + 1 < scanBound ∧ N (upd H1 D (SetX P w D (insX c l)))
/-- a set comprehension's reading: wk, what is done behind the first clause's tests -/
def tBlk (P : Program) (w : World) (wi : TI) (g : TG) (tt : TT) (wk : Addr → L2.St → Hp → (Hp → Prop) → Prop) (vs : List Nat) : TE := fun σ H Q => wi σ H fun J H1 => ∀ D, H1 D = none →
  ∃ W : Nat → Nat → Hp → Prop, (∃ m, W 0 m (upd H1 D (SetX P w D []))) ∧ Turns J g tt (wk D) (wipe σ vs) vs W (Q (.ref D))
theorem set_block {elt tg iter : Expr} {ifs : List Expr} {rest : List Comprehension} {scope : Scope} {own : List (Str × Nat)} {pos : Pos} {wi : TI} {g : TG} {tt : TT} {wk : Addr → L2.St → Hp → (Hp → Prop) → Prop} {work : Addr → Env → Sem Unit}
    (hc : X.calm = true) (hN : X.N.Nodup) (hi : PI X tg iter wi) (ok : BlkOk X.N X.env.scope scope own)
    (hg : InBlk X scope fun Y => PG Y tg g)
    (ht : InBlk X scope fun Y => PTs Y ifs tt)
    (he : ∀ it D env, compTurn (.SetComp elt (⟨tg, iter, ifs, 0⟩ :: rest) scope pos) 0 (.ref it) (.ref D) env = turnText (.SetComp elt (⟨tg, iter, ifs, 0⟩ :: rest) scope pos) 0 tg iter.pos ifs (work D env) (.ref it) (.ref D) env)
    (pw : ∀ (s0 : Shared) (H0 : Hp) (C : Addr) (cl : List (Str × Addr)) (fp : List Addr) (D : Addr) pins σ H N s, Inv (X.blk s0 H0 scope (compEnvC scope cl C X.env) fp) pins σ H s → wk D σ H N →
      wpAny (model X.prog X.w) X.A (work D (compEnvC scope cl C X.env)) (fun _ s' => ∃ σ' H', Inv (X.blk s0 H0 scope (compEnvC scope cl C X.env) fp) pins σ' H' s' ∧ Kept (wipe σ (own.map (·.2))) σ' ∧ N H') (fun _ _ => False) s)
    (hs : ∀ x, foldedSetIterable iter X.env x = pure x) : PE X (.SetComp elt (⟨tg, iter, ifs, 0⟩ :: rest) scope pos) (tBlk X.prog X.w wi g tt wk (own.map (·.2))) := by
  refine ⟨fun pins s σ H Q I h => ?_⟩
  rw [eval_SetComp]
  have free : ∀ y ∈ scope.names, y.2 = .free → ∃ c, X.env.cells.lookup y.1 = some c := fun y hy e => I.ok.has _ (ok.free y hy e)
  refine wpAny_comprehension_free (use := none) rfl hs (closure_ok free) ok.kind (fun y hy e => e ▸ ok.uniq y hy) (thn (hi.run pins s σ H _ I h) fun _ _ z => thn z fun _ s2 z => ?_)
  obtain ⟨it, fp, tn, J, H2, rfl, I2, T, st2, f2, q⟩ := z
  refine newSet_ok (newEnv_comp ?_)
  obtain ⟨W, ⟨m0, w0⟩, tu⟩ := q s2.heap.objs.size (I2.hok.fresh (Nat.le_refl _))
  have I3 := I2.laid (t' := s2.toks) (a := s2.heap.objs.size) (fun b o e => Heap.get?_push_of_some (bareX X.w) e) (Nat.le_refl _) (setX_new (sx_fresh (Heap.get?_push_size _ rfl)))
  have young : ∀ b ∈ fp, b < s2.heap.objs.size := fun b hb => let ⟨_, e, _⟩ := T.obj _ _ st2 b hb; Heap.lt_size e
  have st3 := T.keep 0 _ (s2.heap.push (bareX X.w)) st2 fun b _ o e => Heap.get?_push_of_some _ e
  have f3 : ∀ b ∈ fp, FpOk X pins (upd H2 s2.heap.objs.size (SetX X.prog X.w s2.heap.objs.size [])) b := fun b hb => ⟨by rw [upd_ne (Nat.ne_of_lt (young b hb))]; exact (f2 b hb).1, (f2 b hb).2⟩
  have old : ∀ b ∈ fp, b < (s2.heap.push (bareX X.w)).objs.size := fun b hb => by rw [Heap.size_push]; exact Nat.lt_succ_of_lt (young b hb)
  generalize upd H2 s2.heap.objs.size (SetX X.prog X.w s2.heap.objs.size []) = H3 at I3 f3 w0
  generalize s2.heap.objs.size = D at I3 tu ⊢
  generalize hs3 : ({ s2 with heap := s2.heap.push (bareX X.w) } : Shared) = s3 at I3
  have e3 : s3.heap = s2.heap.push (bareX X.w) := by rw [← hs3]
  rw [← e3] at st3 old
  have I4 := block_start I3 ok hN fun b hb => ⟨f3 b hb, old b hb⟩
  have st4 := T.keep 0 _ (pushCells (s3.heap.push { cls := .type "dict", data := .dict #[] }) scope.names) st3 fun b _ o e => pushCells_keeps _ _ _ _ (Heap.get?_push_of_some _ e)
  show codeAny _ _ (.compStart _ 0 (.ref it) (.ref D) (compEnvC scope (cellsFrom (s3.heap.objs.size + 1) scope.names (cloFrom X.env.cells scope.names [])) s3.heap.objs.size X.env)) _
    { s3 with heap := pushCells (s3.heap.push { cls := .type "dict", data := .dict #[] }) scope.names }
  refine clause_start rfl rfl (fun _ _ z => T.self X.A 0 _ _ _ st4 z) ?_
  refine clause_loop (Y := X.blk s3 H3 scope (compEnvC scope (cellsFrom (s3.heap.objs.size + 1) scope.names (cloFrom X.env.cells scope.names [])) s3.heap.objs.size X.env) fp) rfl hc (he _ _ _) T
    (fun b hb => ⟨H3, (f3 b hb).1, (I4.ok.exf b hb).1, I4.ok.exfs b hb, .inl hb, fun x c e => (I4.ok.exf b hb).2 x c e, fun p hp => (List.not_mem_nil (show p ∈ ([] : List (Addr × Obj)) from hp)).elim⟩) (hg _ _ _ _ _) (ht _ _ _ _ _) (fun pl σ' H' N s' I' z => pw _ _ _ _ _ D _ _ _ _ _ I' z) tu (fun H' s' I' q => ?_) I4 st4 (fun b hb => (f3 b hb).1) w0
  -- back in the def
  have J' := I3.call' (ch := fp) I'.os I'.base I'.hok I'.bare fun b hb => let ⟨_, z1, _, z3, z4, z5⟩ := f3 b hb; ⟨z3, z1, z4, z5⟩
  obtain ⟨m, hm, _⟩ := I'.loc
  obtain ⟨n0, n1, n2, n3, n4, n5⟩ := I3.fpOk (H' := H') (Nat.le_refl _) I'.free
  exact ⟨m, hm, fun h'' sb => ⟨.ref D, H', J'.turned (t' := s'.toks) (fun b o hb e => (sb.2 b hb).trans e) n0 n1 n3 n4 n5, rfl, q⟩⟩
/-- the element's text, then its add -/
def emitX (elt : Expr) (D : Addr) (env : Env) : Sem Unit := eval elt env >>= fun v => standAt elt.pos >>= fun _ => call (.builtin "set.add") [.ref D, v] >>= fun _ => pure ()
theorem emits {Y : Cx} {elt : Expr} {te : TE} {D : Addr} {vs : List Nat} (hY : Y.xe = fun _ _ => False) (he : PE Y elt te) {pins σ H N s} (I : Inv Y pins σ H s) (h : addsX Y.prog Y.w D te σ H N) :
    wpAny (model Y.prog Y.w) Y.A (emitX elt D Y.env) (fun _ s' => ∃ σ' H', Inv Y pins σ' H' s' ∧ Kept (wipe σ vs) σ' ∧ N H') (fun _ _ => False) s := by
  have r := he.run pins s σ H _ I h
  rw [hY] at r
  refine wpAny_bind (thnF r fun v s1 z => wpAny_bind (wpAny_standAt (wpAny_bind ?_)))
  obtain ⟨_, H1, I1, rv, c, l, rfl, e, room, nx⟩ := z
  obtain ⟨u, rfl⟩ := (show ∃ u, v = Value.str c u from rv)
  exact addX_ok I1 e room fun s2 I2 => wpAny_pure ⟨σ, _, I2, kept_wipe σ vs, nx⟩
/-- {elt for tg in iter if ..} -/
abbrev tScX (P : Program) (w : World) (wi : TI) (g : TG) (tt : TT) (te : TE) (vs : List Nat) : TE := tBlk P w wi g tt (fun D => addsX P w D te) vs
theorem pe_scX {elt tg iter : Expr} {ifs : List Expr} {scope : Scope} {own : List (Str × Nat)} {pos : Pos} {wi : TI} {g : TG} {tt : TT} {te : TE} (hc : X.calm = true) (hN : X.N.Nodup) (hi : PI X tg iter wi) (ok : BlkOk X.N X.env.scope scope own)
    (hg : InBlk X scope fun Y => PG Y tg g)
    (ht : InBlk X scope fun Y => PTs Y ifs tt)
    (he : InBlk X scope fun Y => PE Y elt te) (hs : ∀ x, foldedSetIterable iter X.env x = pure x := by intro _; rfl) :
    PE X (.SetComp elt [⟨tg, iter, ifs, 0⟩] scope pos) (tScX X.prog X.w wi g tt te (own.map (·.2))) :=
  set_block (work := emitX elt) hc hN hi ok hg ht (fun _ _ _ => rfl) (fun s0 H0 C cl fp D pins σ H N s I h => emits (Y := X.blk s0 H0 scope (compEnvC scope cl C X.env) fp) rfl (he _ _ _ _ _) I h) hs
/-- {elt for tg in iter if .. for tg1 in iter1 if ..}: vs1, the second target's slots -/
abbrev tScX2 (P : Program) (w : World) (wi : TI) (g : TG) (tt : TT) (wi1 : TI) (g1 : TG) (tt1 : TT) (te : TE) (vs vs1 : List Nat) : TE :=
  tBlk P w wi g tt (fun D σ H N => wi1 σ H fun J1 H1 => ∃ W1 : Nat → Nat → Hp → Prop, (∃ m, W1 0 m H1) ∧ Turns J1 g1 tt1 (addsX P w D te) (wipe σ vs1) vs1 W1 N) vs
def innerX (e : Expr) (iter1 : Expr) (D : Addr) (env : Env) : Sem Unit :=
  eval iter1 env >>= fun x => standAt iter1.pos >>= fun _ => foldedSetIterable iter1 env x >>= fun x => holding [x] (pyIter x) >>= fun t => runOwn (.compStart e 1 t (.ref D) env) env >>= fun _ => pure ()
theorem turn_inner {elt tg iter tg1 iter1 : Expr} {ifs ifs1 : List Expr} {scope : Scope} {pos : Pos} {it D : Addr} {env : Env} : compTurn (.SetComp elt [⟨tg, iter, ifs, 0⟩, ⟨tg1, iter1, ifs1, 0⟩] scope pos) 0 (.ref it) (.ref D) env =
    turnText (.SetComp elt [⟨tg, iter, ifs, 0⟩, ⟨tg1, iter1, ifs1, 0⟩] scope pos) 0 tg iter.pos ifs (innerX (.SetComp elt [⟨tg, iter, ifs, 0⟩, ⟨tg1, iter1, ifs1, 0⟩] scope pos) iter1 D env) (.ref it) (.ref D) env := by
  rw [turnText]
  simp only [innerX, bind_assoc, pure_bind]
  rfl
theorem pe_scX2 {elt tg iter tg1 iter1 : Expr} {ifs ifs1 : List Expr} {scope : Scope} {own : List (Str × Nat)} {vs1 : List Nat} {pos : Pos} {wi wi1 : TI} {g g1 : TG} {tt tt1 : TT} {te : TE} (hc : X.calm = true) (hN : X.N.Nodup) (hi : PI X tg iter wi) (ok : BlkOk X.N X.env.scope scope own) (hv : ∀ i ∈ vs1, i ∈ own.map (·.2))
    (hg : InBlk X scope fun Y => PG Y tg g)
    (ht : InBlk X scope fun Y => PTs Y ifs tt)
    (hi1 : InBlk X scope fun Y => PI Y tg1 iter1 wi1)
    (hg1 : InBlk X scope fun Y => PG Y tg1 g1)
    (ht1 : InBlk X scope fun Y => PTs Y ifs1 tt1)
    (he : InBlk X scope fun Y => PE Y elt te) (hs : ∀ x, foldedSetIterable iter X.env x = pure x := by intro _; rfl) (hs1 : ∀ env x, foldedSetIterable iter1 env x = pure x := by intro _ _; rfl) :
    PE X (.SetComp elt [⟨tg, iter, ifs, 0⟩, ⟨tg1, iter1, ifs1, 0⟩] scope pos) (tScX2 X.prog X.w wi g tt wi1 g1 tt1 te (own.map (·.2)) vs1) := by
  refine set_block (work := innerX (.SetComp elt [⟨tg, iter, ifs, 0⟩, ⟨tg1, iter1, ifs1, 0⟩] scope pos) iter1) hc hN hi ok hg ht (fun _ _ _ => turn_inner) (fun s0 H0 C cl fp D pins σ H N s I h => ?_) hs
  refine wpAny_bind (thnF ((hi1 s0 H0 C cl fp).run pins s σ H _ I h) fun x s1 z => wpAny_bind (wpAny_standAt (wpAny_bind (wpAny_of_eq (hs1 _ x) (wpAny_bind (wpAny_holding (thnF z fun t s2 z => ?_)))))))
  obtain ⟨it, fp1, tn, J, H2, rfl, I2, T, st, f, W, ⟨m, w0⟩, tu⟩ := z
  refine wpAny_bind (wpAny_runOwn ?_)
  rw [Around.mark_none]
  exact clause_start rfl rfl (fun _ _ z => T.self X.A 0 _ _ _ st z) (clause_loop (Y := X.blk s0 H0 scope (compEnvC scope cl C X.env) fp) rfl hc (work := emitX elt D (compEnvC scope cl C X.env)) rfl T (fun b hb => ⟨H2, f b hb⟩) (hg1 _ _ _ _ _) (ht1 _ _ _ _ _)
    (fun pl σ' H' N' s' I' z => emits (Y := X.blk s0 H0 scope (compEnvC scope cl C X.env) fp) rfl (he _ _ _ _ _) I' z) tu (fun H' s' I' nx => wpAny_pure ⟨_, H', I', kept_less hv, nx⟩) (I2.weak (wipe_length _ _) (kept_wipe σ vs1)) st (fun b hb => (f b hb).1) w0)
end
end RM

set_option Elab.async false
set_option linter.all false
set_option maxRecDepth 100000
set_option maxHeartbeats 2000000
/-! sorted(a set of texts) -/
namespace RM
open PySem PySem.Spec PyProof.Rows L2 PySem.Froz
/-! ### texts among values -/
def Text (v : Value) : Prop := ∃ k u, v = .str k u
theorem texts_are : ∀ {l : List Value}, (∀ v ∈ l, Text v) → StrsAre l (l.map strOf)
  | [], _ => .nil
  | _ :: _, h => by
    obtain ⟨h1, h2⟩ := List.forall_mem_cons.mp h
    obtain ⟨k, u, rfl⟩ := h1
    exact .cons k u (texts_are h2)
/-- as many, and nothing lacks: the same -/
theorem perm_of_sub : ∀ {l m : List Str}, l.Nodup → (∀ k ∈ l, k ∈ m) → m.length ≤ l.length → m.Perm l
  | [], m, _, _, h => by rw [List.eq_nil_of_length_eq_zero (Nat.le_zero.mp h)]
  | a :: l, m, nd, sub, h => by
    have ha := sub a List.mem_cons_self
    have el := List.length_erase_of_mem ha
    have ep := List.length_pos_of_mem ha
    obtain ⟨na, nd⟩ := List.nodup_cons.mp nd
    refine (List.perm_cons_erase ha).trans ((perm_of_sub nd (fun k hk => ?_) ?_).cons a)
    · have ne : k ≠ a := by rintro rfl; exact na hk
      exact (List.mem_erase_of_ne ne).mpr (sub k (List.mem_cons_of_mem _ hk))
    · rw [List.length_cons] at h; omega
theorem Txs.values {P : Program} {w : World} {D : SD} {l : List Str} (F : Txs P w D l) {vs : List Value} (p : vs.Perm (D.1.toList.map (·.2))) : StrsAre vs (vs.map strOf) ∧ (vs.map strOf).Perm l := by
  have shape : ∀ {k : Str} {v : Value}, (strKind P w).is k v = true → ∃ u, v = .str k u := fun h => Value.isStrOf_shape h
  refine ⟨texts_are fun v hv => ?_, perm_of_sub F.nd (fun k hk => ?_) ?_⟩
  · obtain ⟨e, he, rfl⟩ := List.mem_map.mp (p.mem_iff.mp hv)
    obtain ⟨⟨k, h1, _⟩, _⟩ := F.ok.el e he
    exact ⟨k, shape h1⟩
  · obtain ⟨e, he, h1⟩ := (F.ok.mem k).mp hk
    obtain ⟨u, h2⟩ := shape h1
    exact List.mem_map.mpr ⟨.str k u, p.mem_iff.mpr (List.mem_map.mpr ⟨e, he, h2⟩), rfl⟩
  · rw [List.length_map, p.length_eq, List.length_map, Array.length_toList, F.ok.sz]
    exact Nat.le_refl _
/-! ### sorted, of whatever gives texts -/
section
variable {P : Program} {w : World} {A : Around} {E : Value → Shared → Prop} {s : Shared}
theorem sorted_texts {x : Value} {ks : List Str} {Q : Value → Shared → Prop} (few : ks.length ≤ 1000)
    (gives : wpAny (model P w) A.in1 (collect x) (fun vs s1 => StrsAre vs (vs.map strOf) ∧ (vs.map strOf).Perm ks ∧
      ∀ ys us h' c, StrsAre us ys → ys.Perm ks → sortedS ys = true → (∀ b o, s1.heap.get? b = some o → h'.get? b = some o) → h'.get? s1.heap.objs.size = some (seqObj "list" us.toArray c) → Q (.ref s1.heap.objs.size) { s1 with heap := h' }) E s) :
    wpAny (model P w) A (call (.builtin "sorted") [x]) Q E s := by
  refine Calls.call_function_entry kind_sorted plain_sorted entry_sorted (args_sorted1 _) ?_
  unfold Builtin.«sorted»
  refine wpAny_bind (m := checkCount "sorted" 1 1 _) (wpAny_pure (wpAny_bind (thn gives fun vs s1 z => ?_)))
  obtain ⟨hS, pk, q⟩ := z
  have sz : vs.length ≤ sizeLine := by
    have e := pk.length_eq
    rw [List.length_map] at e
    rw [e, sizeLine_eq]; omega
  refine wpAny_bind (wpAny_newList ?_ sz)
  have at_ : (s1.heap.push (seqObj "list" vs.toArray 0)).get? s1.heap.objs.size = some (seqObj "list" vs.toArray 0) := Heap.get?_push_size _ rfl
  refine wpAny_bind (wpAny_holding (wpAny_call_entry slot_list_sort ⟨_, at_, rfl⟩ entry_list_sort (list_sort_treeKAny strKind_oneLt at_ hS.keysOf (fun _ _ _ e => keyKind_strs (e ▸ hS)) sz fun st' hp hs => ⟨_, rfl, ?_⟩) (args_list_sort _)))
  obtain ⟨ys, h1, h2, h3⟩ := sorted_out_str hS hp hs
  obtain ⟨c, hc⟩ := sortedHeap_at (vs := vs) (out := (arrOf st').map (·.2)) at_
  refine wpAny_pure ⟨_, rfl, q ys _ _ c h1 (h2.trans pk) h3 (fun b o e => ?_) (by rw [Array.toArray_toList]; exact hc)⟩
  have lt := Heap.lt_size e
  rw [sortedHeap_old (Nat.ne_of_lt lt) (by rw [size_push']; exact Nat.lt_succ_of_lt lt)]
  exact Heap.get?_push_of_some _ e
end
def rSortX (P : Program) (w : World) : List V → Hp → VK → Prop := fun xs H Q => ∃ (a : Addr) (l : List Str), xs = [V.ref a] ∧ H a = some (SetX P w a l) ∧ l.length ≤ 1000 ∧
  ∀ (ks : List Str) (p : Addr), ks.Perm l → l.Nodup → sortedS ks = true → H p = none → Q (.ref p) (upd H p (.lst (ks.map V.str)))
theorem cr_sortX {X : Cx} (hc : X.calm = true) : CallR X (.builtin "sorted") (rSortX X.prog X.w) := by
  rintro pins s σ H xs us Q I r ⟨a, l, rfl, e, few, q⟩
  rw [Vals.ref1 r]
  obtain ⟨D, ho, F⟩ := Txs.of I e
  refine sorted_texts few (collect_set (A := X.A.in1) (es := D.1) (ep := D.2.1) (t := D.2.2) (I.ok.hd hc) ⟨_, ho, rfl, rfl⟩ F.ok.fit (by rw [F.ok.sz]; exact F.few) F.wk.1 F.wk.2 fun s1 vs keep _ gs os pm => ?_)
  obtain ⟨t1, t2⟩ := F.values pm
  refine ⟨t1, t2, fun ys us' h' c h1 h2 h3 keep' at_ => ?_⟩
  have I1 : Inv X pins σ H s1 := I.call' (ch := []) os (Un.kept keep) (I.hok.kept keep) (by rw [gs]; exact I.bare) (fun _ z => nomatch z)
  have sz : (ys.map V.str).length ≤ sizeLine := by rw [List.length_map, h2.length_eq, sizeLine_eq]; omega
  exact ⟨.ref s1.heap.objs.size, _, I1.laid (t' := s1.toks) (o := .lst (ys.map V.str)) keep' (Nat.le_refl _) ⟨sz, us', c, vals_of_strs h1, at_⟩, rfl, q ys _ h2 F.nd h3 (I1.hok.fresh (Nat.le_refl _))⟩
end RM

set_option Elab.async false
set_option linter.all false
set_option maxRecDepth 100000
set_option maxHeartbeats 4000000
/-! set(a list of texts) -/
namespace RM
open PySem PySem.Spec PyProof.Rows L2 PySem.Froz
/-- the texts r put to l, one after another -/
def pour : List Str → List Str → List Str
  | [], l => l
  | k :: r, l => pour r (insX k l)
theorem pour_mem {k : Str} : ∀ {r l : List Str}, k ∈ pour r l ↔ k ∈ r ∨ k ∈ l
  | [], l => by simp [pour]
  | a :: r, l => by rw [pour, pour_mem, insX_mem, List.mem_cons]; grind
theorem pour_len : ∀ {r l : List Str}, (pour r l).length ≤ r.length + l.length
  | [], l => by simp [pour]
  | a :: r, l => by
    have := pour_len (r := r) (l := insX a l)
    have := insX_len (k := a) (l := l)
    rw [pour, List.length_cons]
    omega
section
variable {P : Program} {w : World} {A : Around} {R : Result → Shared → Prop} {I S : Addr} {s : Shared}
/-- one turn of the builtin's loop -/
theorem loop_turn (h : wpAny (model P w) A.in1 (pyNext (.ref I)) (fun r s1 => match r with
      | none => R (.ok (.ret .none)) s1
      | some v => wpAny (model P w) A.in1 (setAdd S v) (fun _ s2 => codeAny (model P w) A (.builtin "set.update.loop" ⟨[.ref S, .ref I], []⟩) R s2) (fun e s' => R (.error e) s') s1) (fun e s' => R (.error e) s') s) :
    codeAny (model P w) A (.builtin "set.update.loop" ⟨[.ref S, .ref I], []⟩) R s := by
  refine codeAny_builtin F.entry_set_update_loop ?_
  rw [Around.under_plainId F.plain_set_update_loop _]
  show wpAny _ A.in1 (pyNext (.ref I) >>= _) _ _ s
  refine wpAny_bind (wpAny_mono h (fun r s1 z => ?_) fun _ _ z => z)
  match r, z with
  | none, z => exact wpAny_pure z
  | some v, z => exact wpAny_bind (wpAny_holding (wpAny_mono z (fun _ _ y => wpAny_pure ⟨plainId_quiet F.plain_set_update_loop _, y⟩) fun _ _ y => y))
variable {fp wr : List Addr} {G : Array GenState → Array GenState → Prop} {n : Nat} {Pv : Nat → Value → Prop} {St : Nat → Shared → Prop}
theorem loop_x (W : WalksS P w A.in1 I fp wr G n Pv St) (hS : S ∉ fp) {zs : List Str} (hn : n = zs.length) (hv : ∀ i v, Pv i v → ∃ k u, zs[i]? = some k ∧ v = .str k u) :
    ∀ (r : List Str) (i : Nat) (l : List Str) (s : Shared), zs.drop i = r → i ≤ zs.length → St i s → SX P w s.heap S l → l.length + r.length < scanBound →
      (∀ s', Moved (S :: wr) G s s' → SX P w s'.heap S (pour r l) → R (.ok (.ret .none)) s') → codeAny (model P w) A (.builtin "set.update.loop" ⟨[.ref S, .ref I], []⟩) R s := by
  have out : S ∉ wr := fun h => hS (W.sub _ h)
  have more : ∀ b ∈ wr, b ∈ S :: wr := fun _ hb => List.mem_cons_of_mem _ hb
  intro r
  induction r with
  | nil =>
    intro i l s hd hi st sx _ q
    have e : i = n := by have := List.drop_eq_nil_iff.mp hd; omega
    subst e
    refine loop_turn (W.done s _ _ st fun s1 mv => ?_)
    exact q s1 (mv.mono more) (sx.at fun o e => mv.heap S o out e)
  | cons z r ih =>
    intro i l s hd hi st sx room q
    rw [List.length_cons] at room
    have lt : i < n := by
      have := congrArg List.length hd
      rw [List.length_drop, List.length_cons] at this
      omega
    have hz : zs[i]? = some z := by rw [← List.head?_drop, hd]; rfl
    have hd' : zs.drop (i + 1) = r := by rw [← List.tail_drop, hd]; rfl
    refine loop_turn (W.item i s _ _ lt st fun v s1 hp st1 mv => ?_)
    obtain ⟨k, u, hk, rfl⟩ := hv i v hp
    obtain rfl : z = k := by rw [hz] at hk; exact Option.some.inj hk
    refine setAdd_x (sx.at fun o e => mv.heap S o out e) (by omega) fun _ h' sb sx2 => ?_
    have ne : ∀ b ∈ fp, b ≠ S := fun b hb e => hS (e ▸ hb)
    refine ih (i + 1) _ _ hd' (by omega) (W.frame _ s1 _ _ st1 (Nat.le_succ _) fun b hb o e => by rw [sb.2 b (ne b hb)]; exact e) sx2 (by have := insX_len (k := z) (l := l); omega) fun s2 mv2 sx3 => ?_
    refine q s2 (Moved.trans W.gtrans ((mv.mono more).then_heap (Nat.le_succ _) fun b o hb e => ?_) mv2) sx3
    rw [sb.2 b fun e => hb (e ▸ List.mem_cons_self)]
    exact e
end
section
variable {P : Program} {w : World} {A : Around} {E : Value → Shared → Prop} {s : Shared} {S l : Addr} {items : Array Value} {zs : List Str}
/-- the values of a list of texts, place by place -/
theorem text_at (ht : StrsAre items.toList zs) {i : Nat} {v : Value} (e : items[i]? = some v) : ∃ k u, zs[i]? = some k ∧ v = .str k u := by
  rw [← Array.getElem?_toList] at e
  obtain ⟨k, u, rfl⟩ := ht.all v (List.mem_of_getElem? e)
  refine ⟨k, u, ?_, rfl⟩
  rw [← ht.strs, List.getElem?_map, e]
  rfl
theorem no_set {a : Addr} {Q : Bool → Shared → Prop} (ty : s.TypeIs (.ref a) "list") (q : Q false s) : wpAny (model P w) A (Builtin.Frozenset.isAnySet (.ref a)) Q E s := by
  unfold Builtin.Frozenset.isAnySet
  refine wpAny_bind (wpAny_isInstance ty F.sub_list_set ?_)
  exact wpAny_isInstance ty F.sub_list_frozenset q
/-- an empty set is filled from a list of texts -/
theorem update_x {name : String} {Q : Unit → Shared → Prop} (hh : A.handled = none) (hS : s.heap.get? S = some (bareX w)) (hl : s.heap.IsList l items) (ht : StrsAre items.toList zs) (room : zs.length < scanBound)
    (q : ∀ s', (∀ b o, b ≠ S → s.heap.get? b = some o → s'.heap.get? b = some o) → s'.gens = s.gens → s'.drawn = s.drawn → s'.os = s.os → SX P w s'.heap S (pour zs []) → Q () s') :
    wpAny (model P w) A (Builtin.Frozenset.updateFrom name S (.ref l)) Q E s := by
  have sz : items.size = zs.length := by rw [← Array.length_toList]; exact ht.length
  have ltS := Heap.lt_size hS
  have ty : s.TypeIs (.ref l) "list" := let ⟨_, e, c, _⟩ := hl; ⟨_, e, c⟩
  have ltl : l < s.heap.objs.size := let ⟨_, e, _⟩ := hl; Heap.lt_size e
  have neSl : S ≠ l := by
    rintro rfl
    obtain ⟨o, ho, hcl, _⟩ := hl
    rw [hS] at ho
    cases ho
    exact absurd (show Value.type "set" = Value.type "list" from hcl) (by decide)
  unfold Builtin.Frozenset.updateFrom
  refine wpAny_bind (no_set ty ?_)
  rw [if_neg Bool.false_ne_true]
  refine wpAny_bind (wpAny_typeOf ty ?_)
  rw [if_neg (by decide)]
  refine wpAny_bind (wpAny_pyIter_list hl (wpAny_bind (wpAny_runValue ?_)))
  have W := (Walks.list (prog := P) (w := w) (A := A.in1) (by simp [hh]) s.heap.objs.size l (Nat.ne_of_lt ltl) items).toS
  refine loop_x W ?_ sz (fun i v e => text_at ht e) zs 0 [] _ rfl (Nat.zero_le _) ⟨⟨_, Heap.get?_push_size _ rfl, rfl, rfl⟩, hl.push _⟩ (sx_fresh (Heap.get?_push_of_some _ hS)) (by simp; omega) fun s' mv sx => ?_
  · simp only [List.mem_cons, List.not_mem_nil, or_false, not_or]
    exact ⟨Nat.ne_of_lt ltS, neSl⟩
  · refine wpAny_pure (q s' (fun b o ne e => mv.heap b o ?_ (Heap.get?_push_of_some _ e)) mv.gens mv.drawn mv.os sx)
    simp only [List.mem_cons, List.not_mem_nil, or_false, not_or]
    exact ⟨ne, Nat.ne_of_lt (Heap.lt_size e)⟩
theorem init_x {Q : PySem.Fin → Shared → Prop} (hh : A.handled = none) (hS : s.heap.get? S = some (bareX w)) (hl : s.heap.IsList l items) (ht : StrsAre items.toList zs) (room : zs.length < scanBound)
    (q : ∀ s', (∀ b o, b ≠ S → s.heap.get? b = some o → s'.heap.get? b = some o) → s'.gens = s.gens → s'.drawn = s.drawn → s'.os = s.os → SX P w s'.heap S (pour zs []) → Q (.done (.ret .none)) s') :
    wpAny (model P w) A (Builtin.«set.__init__» ⟨[.ref S, .ref l], []⟩) Q E s := by
  have ty : s.TypeIs (.ref S) "set" := ⟨_, hS, rfl⟩
  unfold Builtin.«set.__init__» noKeywords
  generalize hU : @Builtin.Frozenset.updateFrom = U
  wp_walk
  subst hU
  refine update_x hh hS hl ht room fun s' k1 k2 k3 k4 sx => ?_
  exact wpAny_pure (q s' k1 k2 k3 k4 sx)
/-- what `set(l)` hands back -/
theorem call_set_x {Q : Value → Shared → Prop} (hh : A.handled = none) (hl : s.heap.IsList l items) (ht : StrsAre items.toList zs) (room : zs.length < scanBound)
    (q : ∀ s', (∀ b o, s.heap.get? b = some o → s'.heap.get? b = some o) → s'.gens = s.gens → s'.drawn = s.drawn → s'.os = s.os → SX P w s'.heap s.heap.objs.size (pour zs []) → Q (.ref s.heap.objs.size) s') :
    wpAny (model P w) A (call (.type "set") [.ref l]) Q E s := by
  obtain ⟨_, _, line⟩ := F.called_set.mro
  have maker := F.called_set.made
  have below := F.called_set.sub
  have plain := F.called_set.notType
  have can := F.called_set.canCreate
  have count := F.typeCall_set_1 (.ref l)
  refine wpAny_call (codeAny_of_tree (wpAny_pure ⟨Code.quiet_builtin _ (by decide +kernel), codeAny_builtin F.entry_type_call ?_⟩))
  rw [Around.under_plain (weight_type_call_type "set" [.ref l] []) rfl]
  repeat (any_goals (first | assumption | wp_step))
  refine codeAny_mono (code_set_led1 (.ref l) (E := E) (Q₁ := fun v s1 => v = .ref s.heap.objs.size ∧ s1 = { s with heap := s.heap.push (bareX w) }) ⟨rfl, rfl⟩) fun r s1 z => ?_
  match r, z with
  | .error _, z => exact z
  | .ok .next, z => exact z.elim
  | .ok .brk, z => exact z.elim
  | .ok .cont, z => exact z.elim
  | .ok (.ret _), z =>
  obtain ⟨rfl, rfl⟩ := z
  have hS : (s.heap.push (bareX w)).get? s.heap.objs.size = some (bareX w) := Heap.get?_push_size _ rfl
  have ty : Shared.TypeIs { s with heap := s.heap.push (bareX w) } (.ref s.heap.objs.size) "set" := ⟨_, hS, rfl⟩
  have first := F.called_set.init.lookup
  have bound := F.called_set.init.bind (.ref s.heap.objs.size)
  repeat (any_goals (first | assumption | wp_step))
  refine codeAny_mono (codeAny_call_builtin (R := wants (fun v s2 => v = .none ∧ Q (.ref s.heap.objs.size) s2) E) F.called_set.init.plain F.entry_set_init (check_set_init_1 ty ?_)) fun r s2 z => ?_
  · refine init_x ?_ hS (hl.push _) ht room fun s2 k1 k2 k3 k4 sx => ⟨rfl, q s2 (fun b o e => k1 b o (Nat.ne_of_lt (Heap.lt_size e)) (Heap.get?_push_of_some _ e)) k2 k3 k4 sx⟩
    simp [hh]
  · match r, z with
    | .error _, z => exact z
    | .ok .next, z => exact z.elim
    | .ok .brk, z => exact z.elim
    | .ok .cont, z => exact z.elim
    | .ok (.ret _), z =>
    obtain ⟨rfl, qq⟩ := z
    repeat (any_goals (first | assumption | wp_step))
end
/-! ### over the tracked heap -/
def rSetL (P : Program) (w : World) (K : PySem.W.Frag) : List V → Hp → VK → Prop := fun xs H Q => ∃ (a : Addr) (zs : List Str), xs = [V.ref a] ∧ SqL K H a (zs.map V.str) ∧ zs.length + 1 < scanBound ∧
  ∀ (l : List Str) (p : Addr), l.length ≤ zs.length → (∀ k, k ∈ l ↔ k ∈ zs) → H p = none → Q (.ref p) (upd H p (SetX P w p l))
theorem cr_setL {X : Cx} (hc : X.calm = true) : CallR X (.type "set") (rSetL X.prog X.w X.K) := by
  rintro pins s σ H xs us Q I r ⟨a, zs, rfl, hs, hb, q⟩
  rw [Vals.ref1 r]
  obtain ⟨its, rv, hl, hz⟩ := I.list hs
  refine call_set_x (I.ok.hd hc) hl.isList (show StrsAre its.toArray.toList zs from rv.strs) (by omega) fun s' k1 k2 k3 k4 sx => ?_
  obtain ⟨h', _, _, t', _⟩ := s'
  cases k2
  cases k3
  cases k4
  have len := pour_len (r := zs) (l := [])
  exact ⟨.ref s.heap.objs.size, _, I.laid (t' := t') k1 (Nat.le_refl _) (setX_new sx), rfl, q _ _ (by simpa using len) (fun k => by rw [pour_mem]; simp) (I.hok.fresh (Nat.le_refl _))⟩
end RM

set_option Elab.async false
set_option linter.all false
set_option maxRecDepth 100000
set_option maxHeartbeats 2000000
/-! own == of instances -/
namespace RM
open PySem PySem.Spec PyProof.Rows L2
section
variable (P : Program) (w : World) (K : PySem.W.Frag) (mg : Str → Option Value) (base : Heap)
/-- an own special method, met by an operator -/
def Own (k : Nat) (C : Addr) (m : Str) (sp : Sp) : Prop :=
  ∃ (f : Addr) (fd : FuncData) (ps : List Str), FnOk P w K mg base CX0 k f fd ps sp ∧ PySem.W.findIn K (.ref C) m = some (some (.ref f)) ∧ PySem.W.isFn K (.ref f) = true ∧ Binds K fd ps []
end
section
variable {P : Program} {w : World} {K : PySem.W.Frag} {mg : Str → Option Value} {base : Heap} {k : Nat} {m x : Str} {C : Addr} {sp : Sp}
theorem own_0 {qual : Str} {st : Stmt} {N ps : List Str} (F : ∃ fd, FunD K m qual (defArgs st) (defBody st) (defScope st) [] [] (He.ma K (He.ga K x) m) fd) (hs : spcB K x m = true) (S : FnScope N ps (defScope st))
    (hb : ∀ (kV doc pm : Value) (an : Option Addr) (cdv ct : Value) (us : List Value), us.length = ps.length → bindArgs (PySem.W.fnOf m qual (defArgs st) (defBody st) (defScope st) .none kV doc pm an cdv ct) ⟨us, []⟩ = pure (ps.zip us))
    (len : ∀ vs H Q E, sp vs H Q E → vs.length = ps.length) (h : Body0 P w K mg base N qual st (He.ma K (He.ga K x) m) k sp) : Own P w K mg base (k + 1) (He.ga K x) m sp :=
  let ⟨fd, F⟩ := F
  ⟨_, fd, ps, fn_0 F S len h, (spcB_ok hs).1, (spcB_ok hs).2, F.bindsN hb⟩
end
theorem room64 {k : Nat} {A : Around} (hr : Room k A) : A.units + 64 < cLine := by have := hr.un; omega
theorem not_ni {z : V} {u : Value} (r : RelV z u) : u ≠ .notImplemented := by
  intro e
  subst e
  cases z <;> simp [L2.RelV] at r
/-- x == y, the two of one own class -/
def rOwn (C : Addr) (sp : Sp) : R2 := fun x y H Q => ∃ a b dx dy fs gs, x = .ref a ∧ y = .ref b ∧ H a = some (.ins C dx fs) ∧ H b = some (.ins C dy gs) ∧ sp [x, y] H Q E0
section
variable {X : Cx} {k j : Nat} {C : Addr} {sp : Sp}
/-- a def called with what stands for vs -/
theorem ask_def {f : Addr} {fd : FuncData} {ps : List Str} {pins : List (Addr × Obj)} {σ : L2.St} {H : Hp} {s : Shared} {vs : List V} {us : List Value} {Q : VK} (F : FnOk X.prog X.w X.K X.mg X.base CX0 k f fd ps sp) (B : Binds X.K fd ps []) (hr : Room k X.A)
    (I : Inv X pins σ H s) (r : Vals vs us) (same : us.length = vs.length) (h : sp vs H Q E0) : wpAny (model X.prog X.w) X.A (call (.ref f) us) (EP X pins σ Q) X.xe s := by
  have given := B s us I.kIn
  rw [List.append_nil] at given
  refine wpAny_call (codeAny_mono (F.run X.A X.stack s H ⟨us, []⟩ us vs _ E0 hr I.env0 (given (same.trans (F.len _ _ _ _ h))) r h) fun out s1 z => ?_)
  match out, z with
  | .ok (.ret _), z => exact I.after z
  | .error _, z => exact pass0 pins σ H s _ s1 I z
  | .ok .next, z => exact z.elim
  | .ok .brk, z => exact z.elim
  | .ok .cont, z => exact z.elim
theorem op_ownEq (c : Own X.prog X.w X.K X.mg X.base k C "__eq__" sp) (hr : Room j X.A) (hk : k ≤ j := by omega) : OpR X (compareOp .Eq) (rOwn C sp) := by
  rintro pins s σ H _ _ v u Q I rx ry ⟨a, b, dx, dy, fs, gs, rfl, rfl, ha, hb, hsp⟩
  obtain ⟨f, fd, ps, F, hs, hf, B⟩ := c
  cases rx
  cases ry
  obtain ⟨_, ia, _⟩ := ins_get I.hok ha
  obtain ⟨_, ib, _⟩ := ins_get I.hok hb
  obtain ⟨_, la, _⟩ := ia.look
  obtain ⟨_, lb, _⟩ := ib.look
  have un := (hr.mono hk).un
  refine PySem.W.cmp_K (op := .Eq) (tb := .ref C) (by omega) I.fr.choose_spec I.ok.mod.kin la lb.type (by simp [PySem.W.notFirst]) hs hf (thn (ask_def (vs := [.ref a, .ref b]) F B (hr.mono hk) I (.cons rfl (.cons rfl .nil)) rfl hsp) fun r s1 z => ?_)
  obtain ⟨z, H1, I1, rz, q⟩ := z
  have some := not_ni rz
  cases r <;> first | exact absurd rfl some | exact ⟨z, H1, I1, rz, q⟩
end
/-- a sequence as it stands in a block -/
theorem pi_seqA' {X : Cx} {K : PySem.W.Frag} {tg l : Expr} {tl : TE} (hK : X.K = K) (hl : PE X l tl) : PI X tg l (iSeqA K tl) := by subst hK; exact pi_seqA hl
end RM

set_option Elab.async false
set_option linter.all false
set_option maxRecDepth 100000
set_option maxHeartbeats 2000000
namespace RM
open PySem PySem.Spec PyProof.Rows L2
section
variable {P : Program} {w : World} {K : PySem.W.Frag} {mg : Str → Option Value} {base : Heap}
/-! ### check_size -/
def spSize (K : PySem.W.Frag) : Sp := fun vs H Q _ => match vs with
  | [b] => ∃ (l : List Stm), Dp K H b (.tuple (encB false l)) ∧ dB l ≤ 4 ∧ cB l ≤ 60 ∧ ∀ H', Same H H' → Q .non H'
  | _ => False
theorem sc_check_size : FnScope ["body"] ["body"] (defScope s_check_size) := ⟨rfl, rfl, rfl, by decide +kernel, rfl, by decide +kernel, by decide +kernel⟩
theorem path0 {K : PySem.W.Frag} {H : Hp} {a : Addr} (h : SqT K H a []) : Dp K H (.ref a) (pathD []) := .tup h .nil
theorem c_check_size (T : Top w K mg) : Cal P w K mg base CX0 6 "check_size" (spSize K) := by
  refine cal_0 (f_check_size T) (g_check_size T) sc_check_size (fun _ _ _ _ _ _ us hl => match us, hl with | [_], _ => rfl) (fun vs H Q E h => match vs, h with | [_], _ => rfl) (fun cdv A outer s H vs Q E hr h => ?_)
  match vs, h with
  | [b], h =>
  obtain ⟨l, hb, hd, hc, q⟩ := h
  refine ⟨_, (pss_cons (ps_if (pt_cmpR op_gt (pcb (z_len T) call_len_seq boot_len (pa_cons (pc (c_all_statements T 4) hr (pa_cons (pv 0) (pa_cons (pe_tup pa_nil) pa_nil))) pa_nil)) (pglI (i_MOST T)) (nomark _))
      (pss_one ps_never)
      pss_nil)
    (pss_one (ps_if (pt_cmpR op_gt (pc (c_depth_of T 4) hr (pa_cons (pv 0) pa_nil)) (pglI (i_DEEPEST T)) (nomark _))
      (pss_one ps_never)
      pss_nil))), ?_⟩
  refine ⟨_, rfl, (by show 0 ≤ sizeLine; decide), fun p hp => ?_⟩
  have s1 : Same H (upd H p (.tup [])) := smNew1 hp _
  refine ⟨l, [], Dp.keep s1 hb, path0 (SqT.of upd_same), hd, by omega, by show 0 + 2 * 4 ≤ 1000; omega, fun r H1 ys e1 hr1 hr2 hys => ?_⟩
  have hl : ys.length = cB l := by rw [DpAll.len hys, allD_len, aB_len]
  refine ⟨r, ys, rfl, .inl (SqL.of hr2), _, _, rfl, rfl, _, rfl, ?_⟩
  refine ifF (decide_eq_false (by show ¬ ((60 : Int) < (ys.length : Nat)); omega)) ?_
  have s2 : Same H H1 := s1.trans e1
  refine ⟨_, rfl, l, Dp.keep s2 hb, hd, fun H2 s3 => ?_⟩
  refine ⟨_, _, rfl, rfl, _, rfl, ?_⟩
  refine ifF (decide_eq_false (by show ¬ ((4 : Int) < (dB l : Nat)); omega)) ?_
  exact q H2 (s2.trans s3)
end
end RM

set_option Elab.async false
set_option linter.all false
set_option maxRecDepth 100000
set_option maxHeartbeats 2000000
namespace RM
open PySem PySem.Spec PyProof.Rows L2
section
variable {P : Program} {w : World} {K : PySem.W.Frag} {mg : Str → Option Value} {base : Heap}
/-! ### Program -/
def PrgAt (K : PySem.W.Frag) (H : Hp) (a : Addr) (l : List Stm) : Prop := ∃ dx v, H a = some (.ins (He.ga K "Program") dx [("body", v)]) ∧ Dp K H v (.tuple (encB false l))
theorem PrgAt.keep {H H' : Hp} {a : Addr} {l : List Stm} (e : Same H H') (p : PrgAt K H a l) : PrgAt K H' a l := let ⟨dx, v, h, d⟩ := p; ⟨dx, v, e _ _ h, Dp.keep e d⟩
def spInit (K : PySem.W.Frag) : Sp := fun vs H Q _ => match vs with
  | [x, b] => ∃ a dx fl l, x = .ref a ∧ H a = some (.ins (He.ga K "Program") dx []) ∧ Dp K H b (seqD fl (encB fl l)) ∧ wB l = true ∧ dB l ≤ 4 ∧ cB l ≤ 60 ∧
    ∀ H', (∀ b u, b ≠ a → H b = some u → H' b = some u) → PrgAt K H' a l → Q .non H'
  | _ => False
theorem sc_Program_init : FnScope ["self", "body"] ["self", "body"] (defScope s_Program_init) := ⟨rfl, rfl, rfl, by decide +kernel, rfl, by decide +kernel, by decide +kernel⟩
theorem c_Program_init (T : Top w K mg) : Mak P w K mg base CX0 9 "Program" (He.ga K "Program") (spInit K) := by
  refine mak_0 (f_Program_init T) (mk_Program T) (g_Program T) sc_Program_init (fun _ _ _ _ _ _ us hl => match us, hl with | [_, _], _ => rfl) (fun vs H Q E h => match vs, h with | [_, _], _ => rfl) (fun cdv A outer s H vs Q E hr h => ?_)
  match vs, h with
  | [x, b], h =>
  obtain ⟨a, dx, fl, l, rfl, ha, hb, hw, hd, hc, q⟩ := h
  obtain ⟨b, xs, rfl, hb1, hb2⟩ := seqD_inv hb
  refine ⟨_, (pss_cons (ps_if (pt_not (pt_val (pcb (z_isinstance T) call_isiT boot_isinstance (pa_cons (pv 1) (pa_cons (pe_tup (pa_cons (pty (z_list T) boot_list) (pa_cons (pty (z_tuple T) boot_tuple) pa_nil))) pa_nil)))))
      (pss_one ps_never)
      pss_nil)
    (pss_cons (ps_expr (pc (c_check_body T 4) hr (pa_cons (pv 1) (pa_cons (pe_tup pa_nil) pa_nil))))
    (pss_cons (ps_fld (pv 0) (pc (c_as_tuples T 4) hr (pa_cons (pv 1) pa_nil)) rfl)
    (pss_one (ps_expr (pc (c_check_size T) hr (pa_cons (pe_fld (pv 0) rfl) pa_nil))))))), ?_⟩
  refine ⟨_, rfl, (by show 2 ≤ sizeLine; decide), fun p hp => ?_⟩
  have s1 : Same H (upd H p (.tup [.ty "list", .ty "tuple"])) := smNew1 hp _
  obtain ⟨ty, ht, hk⟩ := ty_seq hb1 s1
  refine ⟨_, p, _, ty, _, true, rfl, upd_same, .cons (.ty _) (.cons (.ty _) .nil), ht, hk, _, rfl, ?_⟩
  refine ifF rfl ?_
  refine ⟨_, rfl, (by show 0 ≤ sizeLine; decide), fun p2 hp2 => ?_⟩
  have s2 := smNew s1 hp2 (.tup [])
  refine ⟨fl, l, [], Dp.keep s2 hb, path0 (SqT.of upd_same), hw, hd, by show 0 + 2 * 4 ≤ 1000; omega, fun H3 s3 => ?_⟩
  have s4 : Same H H3 := s2.trans s3
  refine ⟨_, rfl, fl, fl, l, Dp.keep s4 hb, hd, by omega, fun v H4 s5 hv => ?_⟩
  have s6 := s4.trans s5
  have ha4 := s6 _ _ ha
  refine ⟨_, rfl, a, _, dx, [], rfl, ha4, k_Program T, na_Program_body T, by decide, ?_⟩
  have ts : TS K H4 (upd H4 a (.ins (He.ga K "Program") dx [("body", v)])) := ts_upd _ ha4 trivial
  have hv5 := dp_ts ts hv (noL_tuple (noL_encB l))
  refine ⟨_, rfl, a, _, dx, _, v, rfl, upd_same, k_Program T, na_Program_body T, rfl, l, hv5, hd, hc, fun H6 s7 => ?_⟩
  refine q H6 (fun b u hb hu => s7 _ _ ?_) ⟨dx, v, s7 _ _ upd_same, Dp.keep s7 hv5⟩
  rw [upd_ne hb]
  exact s6 _ _ hu
/-! ### == -/
def spPEq (K : PySem.W.Frag) : Sp := fun vs H Q _ => match vs with
  | [x, y] => ∃ a b l m, x = .ref a ∧ y = .ref b ∧ PrgAt K H a l ∧ PrgAt K H b m ∧ wB l = true ∧ wB m = true ∧ dB l ≤ 4 ∧ dB m ≤ 4 ∧ Q (.bl (PyData.eqv (.tuple (encB false l)) (.tuple (encB false m)))) H
  | _ => False
theorem sc_Program_eq : FnScope ["self", "other"] ["self", "other"] (defScope s_Program_eq) := ⟨rfl, rfl, rfl, by decide +kernel, rfl, by decide +kernel, by decide +kernel⟩
theorem c_Program_eq (T : Top w K mg) : Own P w K mg base 1 (He.ga K "Program") "__eq__" (spPEq K) := by
  refine own_0 (f_Program_eq T) (spc_Program_eq T) sc_Program_eq (fun _ _ _ _ _ _ us hl => match us, hl with | [_, _], _ => rfl) (fun vs H Q E h => match vs, h with | [_, _], _ => rfl) (fun cdv A outer s H vs Q E hr h => ?_)
  match vs, h with
  | [x, y], h =>
  obtain ⟨a, b, l, m, rfl, rfl, ⟨dx, v, ha, hv⟩, ⟨dy, u, hb, hu⟩, wl, wm, hl, hm, q⟩ := h
  refine ⟨_, (pss_cons (ps_if (pt_not (pt_val (pcb (z_isinstance T) call_isi boot_isinstance (pa_cons (pv 1) (pa_cons (pglR (g_Program T)) pa_nil)))))
      (pss_one ps_never)
      pss_nil)
    (pss_one (ps_ret (pe_cmpR (op_eqD (room64 hr)) (pe_fld (pv 0) rfl) (pe_fld (pv 1) rfl) (nomark _))))), ?_⟩
  refine ⟨_, rfl, _, _, _, _, true, rfl, .own _, .base (insB_ty (ins_Program T) (k_Program T) hb), kitC_ok (kit_Program_Program T), ?_⟩
  refine ⟨_, rfl, ifF rfl ?_⟩
  refine ⟨_, rfl, a, _, dx, _, v, rfl, ha, k_Program T, na_Program_body T, rfl, ?_⟩
  refine ⟨_, rfl, b, _, dy, _, u, rfl, hb, k_Program T, na_Program_body T, rfl, ?_⟩
  exact ⟨_, _, hv, hu, shaped_encB (fl := false) wl hl, shaped_encB (fl := false) wm hm, q⟩
end
end RM

set_option Elab.async false
set_option linter.all false
set_option maxRecDepth 100000
set_option maxHeartbeats 2000000
namespace RM
open PySem PySem.Spec PyProof.Rows L2
section
variable {P : Program} {w : World} {K : PySem.W.Frag} {mg : Str → Option Value} {base : Heap}
/-! ### check_size, of any body -/
def spSizeG (K : PySem.W.Frag) : Sp := fun vs H Q E => match vs with
  | [b] => ∃ (l : List Stm), Dp K H b (.tuple (encB false l)) ∧ dB l ≤ 8 ∧ cB l ≤ 1000 ∧ (cB l ≤ 60 → dB l ≤ 4 → ∀ H', Same H H' → Q .non H') ∧
    (60 < cB l → ∀ H', Same H H' → E (.ref (He.ga K "TooLong")) none H') ∧ (cB l ≤ 60 → 4 < dB l → ∀ H', Same H H' → E (.ref (He.ga K "TooDeep")) none H')
  | _ => False
theorem cg_check_size (T : Top w K mg) : Cal P w K mg base (L2.CX P w) 12 "check_size" (spSizeG K) := by
  refine cal_X (f_check_size T) (g_check_size T) sc_check_size (fun _ _ _ _ _ _ us hl => match us, hl with | [_], _ => rfl) (fun vs H Q E h => match vs, h with | [_], _ => rfl) (fun cdv A outer s H vs Q E hr h => ?_)
  match vs, h with
  | [b], h =>
  obtain ⟨l, hb, hd, hc, q, qL, qD⟩ := h
  refine ⟨_, (pss_cons (ps_if (pt_cmpR op_gt (pcb (z_len T) call_len_seq boot_len (pa_cons (pc (c_all_statements T 8) hr (pa_cons (pv 0) (pa_cons (pe_tup pa_nil) pa_nil))) pa_nil)) (pglI (i_MOST T)) (nomark _))
      (pss_one (ps_raise rfl (takes_of rfl rfl rfl rfl) (pmk_exc0 (xc_TooLong T) (g_TooLong T))))
      pss_nil)
    (pss_one (ps_if (pt_cmpR op_gt (pc (c_depth_of T 8) hr (pa_cons (pv 0) pa_nil)) (pglI (i_DEEPEST T)) (nomark _))
      (pss_one (ps_raise rfl (takes_of rfl rfl rfl rfl) (pmk_exc0 (xc_TooDeep T) (g_TooDeep T))))
      pss_nil))), ?_⟩
  refine ⟨_, rfl, (by show 0 ≤ sizeLine; decide), fun p hp => ?_⟩
  have s1 : Same H (upd H p (.tup [])) := smNew1 hp _
  refine ⟨l, [], Dp.keep s1 hb, path0 (SqT.of upd_same), hd, by omega, by show 0 + 2 * 8 ≤ 1000; omega, fun r H1 ys e1 hr1 hr2 hys => ?_⟩
  have hl : ys.length = cB l := by rw [DpAll.len hys, allD_len, aB_len]
  have s2 : Same H H1 := s1.trans e1
  refine ⟨r, ys, rfl, .inl (SqL.of hr2), _, _, rfl, rfl, _, rfl, ?_⟩
  by_cases c1 : 60 < cB l
  · exact ifT (decide_eq_true (by show (60 : Int) < (ys.length : Nat); omega)) (qL c1 H1 s2)
  refine ifF (decide_eq_false (by show ¬ ((60 : Int) < (ys.length : Nat)); omega)) ?_
  refine ⟨_, rfl, l, Dp.keep s2 hb, hd, fun H2 s3 => ?_⟩
  refine ⟨_, _, rfl, rfl, _, rfl, ?_⟩
  by_cases c2 : 4 < dB l
  · exact ifT (decide_eq_true (by show (4 : Int) < (dB l : Nat); omega)) (qD (by omega) c2 H2 (s2.trans s3))
  refine ifF (decide_eq_false (by show ¬ ((4 : Int) < (dB l : Nat)); omega)) ?_
  exact q (by omega) (by omega) H2 (s2.trans s3)
/-! ### Program, of any body -/
/-- all but a is as it was -/
def Off (a : Addr) (H H' : Hp) : Prop := ∀ b u, b ≠ a → H b = some u → H' b = some u
def spInitG (K : PySem.W.Frag) : Sp := fun vs H Q E => match vs with
  | [x, b] => ∃ a dx, x = .ref a ∧ H a = some (.ins (He.ga K "Program") dx []) ∧
    (((∀ H', Same H H' → ∃ ty, TyX K H' b ty ∧ PySem.W.kitAny K ty [.type "list", .type "tuple"] = some false) ∧ ∀ d H' v, H' d = some (.xd [("path", v)]) → Off a H H' → Dp K H' v (pathD []) → E (.ref (He.ga K "BadStatement")) (some d) H') ∨
     (∃ fl c, Dp K H b (seqD fl (Bad.enc c)) ∧ c.ok ∧ c.deep ≤ 8 ∧ ∀ d H' v, H' d = some (.xd [("path", v)]) → Off a H H' → Dp K H' v (pathD (c.path [])) → E (.ref (He.ga K "BadStatement")) (some d) H') ∨
     (∃ fl l, Dp K H b (seqD fl (encB true l)) ∧ wB l = true ∧ dB l ≤ 8 ∧ cB l ≤ 1000 ∧ (cB l ≤ 60 → dB l ≤ 4 → ∀ H', Off a H H' → PrgAt K H' a l → Q .non H') ∧
       (60 < cB l → ∀ H', Off a H H' → E (.ref (He.ga K "TooLong")) none H') ∧ (cB l ≤ 60 → 4 < dB l → ∀ H', Off a H H' → E (.ref (He.ga K "TooDeep")) none H')))
  | _ => False
theorem cg_Program_init (T : Top w K mg) : Mak P w K mg base (L2.CX P w) 14 "Program" (He.ga K "Program") (spInitG K) := by
  refine mak_X (f_Program_init T) (mk_Program T) (g_Program T) sc_Program_init (fun _ _ _ _ _ _ us hl => match us, hl with | [_, _], _ => rfl) (fun vs H Q E h => match vs, h with | [_, _], _ => rfl) (fun cdv A outer s H vs Q E hr h => ?_)
  match vs, h with
  | [x, b], h =>
  obtain ⟨a, dx, rfl, ha, h⟩ := h
  refine ⟨_, (pss_cons (ps_if (pt_not (pt_val (pcb (z_isinstance T) call_isiT boot_isinstance (pa_cons (pv 1) (pa_cons (pe_tup (pa_cons (pty (z_list T) boot_list) (pa_cons (pty (z_tuple T) boot_tuple) pa_nil))) pa_nil)))))
      (pss_one (ps_raiseX (takes_of rfl rfl rfl rfl) (c_BadStatement_init T) hr (pa_cons (pe_tup pa_nil) pa_nil)))
      pss_nil)
    (pss_cons (ps_expr (pcX (takes_of rfl rfl rfl rfl) (c_checkG T 8) hr (pa_cons (pv 1) (pa_cons (pe_tup pa_nil) pa_nil))))
    (pss_cons (ps_fld (pv 0) (pc (c_as_tuples T 8) hr (pa_cons (pv 1) pa_nil)) rfl)
    (pss_one (ps_expr (pcX (takes_of rfl rfl rfl rfl) (cg_check_size T) hr (pa_cons (pe_fld (pv 0) rfl) pa_nil))))))), ?_⟩
  refine ⟨_, rfl, (by show 2 ≤ sizeLine; decide), fun p hp => ?_⟩
  have s1 : Same H (upd H p (.tup [.ty "list", .ty "tuple"])) := smNew1 hp _
  rcases h with ⟨hty, q⟩ | h
  · obtain ⟨ty, ht, hk⟩ := hty _ s1
    refine ⟨_, p, _, ty, _, false, rfl, upd_same, .cons (.ty _) (.cons (.ty _) .nil), ht, hk, _, rfl, ifT rfl ?_⟩
    refine ⟨(by show 0 ≤ sizeLine; decide), fun p2 hp2 => raise1 fun d H' nd e hd => ?_⟩
    have s2 := (smNew s1 hp2 (.tup [])).trans e
    exact q d H' _ hd (fun b u _ hb => s2 _ _ hb) (Dp.keep e (path0 (SqT.of upd_same)))
  rcases h with ⟨fl, c, hb, hc, hcd, q⟩ | ⟨fl, l, hb, hw, hd, hc, q, qL, qD⟩
  · obtain ⟨b, xs, rfl, hb1, hb2⟩ := seqD_inv hb
    obtain ⟨ty, ht, hk⟩ := ty_seq hb1 s1
    refine ⟨_, p, _, ty, _, true, rfl, upd_same, .cons (.ty _) (.cons (.ty _) .nil), ht, hk, _, rfl, ifF rfl ?_⟩
    refine ⟨_, rfl, (by show 0 ≤ sizeLine; decide), fun p2 hp2 => ?_⟩
    have s2 := smNew s1 hp2 (.tup [])
    exact ⟨fl, [], path0 (SqT.of upd_same), by show 0 + 2 * 8 ≤ 1000; omega, .inr ⟨c, Dp.keep s2 hb, hc, hcd, fun d H' v nd e hd hv => q d H' v hd (fun b u _ hb => e _ _ (s2 _ _ hb)) hv⟩⟩
  obtain ⟨b, xs, rfl, hb1, hb2⟩ := seqD_inv hb
  obtain ⟨ty, ht, hk⟩ := ty_seq hb1 s1
  refine ⟨_, p, _, ty, _, true, rfl, upd_same, .cons (.ty _) (.cons (.ty _) .nil), ht, hk, _, rfl, ifF rfl ?_⟩
  refine ⟨_, rfl, (by show 0 ≤ sizeLine; decide), fun p2 hp2 => ?_⟩
  have s2 := smNew s1 hp2 (.tup [])
  refine ⟨fl, [], path0 (SqT.of upd_same), by show 0 + 2 * 8 ≤ 1000; omega, .inl ⟨l, Dp.keep s2 hb, hw, hd, fun H3 s3 => ?_⟩⟩
  have s4 : Same H H3 := s2.trans s3
  refine ⟨_, rfl, fl, true, l, Dp.keep s4 hb, hd, hc, fun v H4 s5 hv => ?_⟩
  have s6 := s4.trans s5
  have ha4 := s6 _ _ ha
  refine ⟨_, rfl, a, _, dx, [], rfl, ha4, k_Program T, na_Program_body T, by decide, ?_⟩
  have ts : TS K H4 (upd H4 a (.ins (He.ga K "Program") dx [("body", v)])) := ts_upd _ ha4 trivial
  have hv5 := dp_ts ts hv (noL_tuple (noL_encB l))
  have off : ∀ {H6}, Same (upd H4 a (.ins (He.ga K "Program") dx [("body", v)])) H6 → Off a H H6 := fun s7 b u hb hu => s7 _ _ (by rw [upd_ne hb]; exact s6 _ _ hu)
  refine ⟨_, rfl, a, _, dx, _, v, rfl, upd_same, k_Program T, na_Program_body T, rfl, l, hv5, hd, hc, fun h1 h2 H6 s7 => ?_, fun h1 H6 s7 => qL h1 H6 (off s7), fun h1 h2 H6 s7 => qD h1 h2 H6 (off s7)⟩
  exact q h1 h2 H6 (off s7) ⟨dx, v, s7 _ _ upd_same, Dp.keep s7 hv5⟩
end
end RM

set_option Elab.async false
set_option linter.all false
set_option maxRecDepth 100000
set_option maxHeartbeats 4000000
namespace RM
open PySem PySem.Spec PyProof.Rows L2
section
variable {P : Program} {w : World} {K : PySem.W.Frag} {mg : Str → Option Value} {base : Heap}
/-! ### _law_told -/
def spTold (K : PySem.W.Frag) : Sp := fun vs H Q _ => match vs with
  | [b] => ((∀ H', Same H H' → ∃ ty, TyX K H' b ty ∧ PySem.W.kitAny K ty [.type "list", .type "tuple"] = some false) ∧ ∀ v H', Same H H' → Dp K H' v (pathD []) → Q v H') ∨
     (∃ fl c, Dp K H b (seqD fl (Bad.enc c)) ∧ c.ok ∧ c.deep ≤ 8 ∧ ∀ v H', Same H H' → Dp K H' v (pathD (c.path [])) → Q v H') ∨
     (∃ fl l, Dp K H b (seqD fl (encB true l)) ∧ wB l = true ∧ dB l ≤ 8 ∧ cB l ≤ 1000 ∧ (cB l ≤ 60 → dB l ≤ 4 → ∀ H', Same H H' → Q (.str "good") H') ∧
       (60 < cB l → ∀ H', Same H H' → Q (.str "long") H') ∧ (cB l ≤ 60 → 4 < dB l → ∀ H', Same H H' → Q (.str "deep") H'))
  | _ => False
theorem sc_law_told : FnScope ["_law_body_here", "_law_told_here", "e"] ["_law_body_here"] (defScope s_law_told) := ⟨rfl, rfl, rfl, by decide +kernel, rfl, by decide +kernel, by decide +kernel⟩
theorem c_law_told (T : Top w K mg) : Cal P w K mg base CX0 16 "_law_told" (spTold K) := by
  refine cal_0 (f_law_told T) (g_law_told T) sc_law_told (fun _ _ _ _ _ _ us hl => match us, hl with | [_], _ => rfl) (fun vs H Q E h => match vs, h with | [_], _ => rfl) (fun cdv A outer s H vs Q E hr h => ?_)
  match vs, h with
  | [b], h =>
  refine ⟨_, (pss_cons (ps_set (i := 1) sc_law_told.nd rfl (Or.inl rfl) pe_str)
    (pss_cons (ps_tryG (fun W pn xe tk => (pss_one (ps_expr (pmkX tk (cg_Program_init T) hr (pa_cons (pv 0) pa_nil)))))
      (hds_as (i := 2) sc_law_told.nd rfl rfl ⟨rfl, by decide, Or.inl (g_BadStatement T)⟩
      (fun a oe cls d pn hz hf => (pss_one (ps_set (i := 1) sc_law_told.nd rfl (Or.inl rfl) (pe_xf (xfB_ok (xf_BadStatement T)) (na_BadStatement_path T) hz hf (pv 2)))))
      (hds_cl ⟨rfl, by decide, Or.inl (g_TooLong T)⟩
      (fun a oe cls d pn hz hf => (pss_one (ps_set (i := 1) sc_law_told.nd rfl (Or.inl rfl) pe_str)))
      (hds_cl ⟨rfl, by decide, Or.inl (g_TooDeep T)⟩
      (fun a oe cls d pn hz hf => (pss_one (ps_set (i := 1) sc_law_told.nd rfl (Or.inl rfl) pe_str)))
      (hds_nil takes0)))))
    (pss_one (ps_ret (pv 1))))), ?_⟩
  -- a new program: what is off it stays
  have off : ∀ {x dx : Addr} {H' : Hp}, H x = none → H dx = none → dx ≠ x → Off x (upd (upd H dx (.own x)) x (.ins (He.ga K "Program") dx [])) H' → Same H H' := fun hx hdx hxd o => mk_sm hx hdx o
  refine ⟨_, rfl, fun x dx hx hdx hxd => ?_⟩
  have mI := mk_in (C := He.ga K "Program") hx hdx hxd
  refine ⟨x, dx, rfl, upd_same, ?_⟩
  rcases h with ⟨ht, q⟩ | ⟨fl, c, hb, hc, hcd, q⟩ | ⟨fl, l, hb, hw, hd, hcb, q, qL, qD⟩
  · refine .inl ⟨fun H' s' => ht H' (mI.trans s'), fun d H' v hd o hv => ?_⟩
    refine ⟨true, xm_BadStatement_BadStatement T, ifT rfl fun a ha => ?_⟩
    exact ⟨_, rfl, rfl, rfl, d, _, v, rfl, hd, rfl, ⟨_, rfl, q v H' (off hx hdx hxd o) hv⟩⟩
  · refine .inr (.inl ⟨fl, c, Dp.keep mI hb, hc, hcd, fun d H' v hd o hv => ?_⟩)
    refine ⟨true, xm_BadStatement_BadStatement T, ifT rfl fun a ha => ?_⟩
    exact ⟨_, rfl, rfl, rfl, d, _, v, rfl, hd, rfl, ⟨_, rfl, q v H' (off hx hdx hxd o) hv⟩⟩
  · refine .inr (.inr ⟨fl, l, Dp.keep mI hb, hw, hd, hcb, fun h1 h2 H' o _ => ⟨rfl, ⟨_, rfl, q h1 h2 H' (off hx hdx hxd o)⟩⟩, fun h1 H' o => ?_, fun h1 h2 H' o => ?_⟩)
    · refine ⟨false, xm_TooLong_BadStatement T, ifF rfl ⟨true, xm_TooLong_TooLong T, ifT rfl fun a ha => ?_⟩⟩
      exact ⟨_, rfl, qL h1 H' (off hx hdx hxd o)⟩
    · refine ⟨false, xm_TooDeep_BadStatement T, ifF rfl ⟨false, xm_TooDeep_TooLong T, ifF rfl ⟨true, xm_TooDeep_TooDeep T, ifT rfl fun a ha => ?_⟩⟩⟩
      exact ⟨_, rfl, qD h1 h2 H' (off hx hdx hxd o)⟩
end
end RM

set_option Elab.async false
set_option linter.all false
set_option maxRecDepth 100000
set_option maxHeartbeats 2000000
namespace RM
open PySem PySem.Spec PyProof.Rows L2
/-! ### a dict beside a tuple -/
theorem tuple_no_dict (b a : Addr) (its : Array Value) (n : Nat) (dd ad : Option Addr) (sl asl : Array (Option Value)) (dt : Data) :
    Meets (Builtin.«tuple.__eq__» ⟨[.ref b, .ref a], []⟩) (fun _ R s => s.heap.get? b = some { cls := .type "tuple", dict := dd, data := .seq its n, slots := sl } ∧ s.heap.get? a = some { cls := .type "dict", dict := ad, data := dt, slots := asl } ∧ R (.ok (.ret .notImplemented)) s) :=
  .of_wp fun prog w A R s h => by
    obtain ⟨hb, ha, h⟩ := h
    obtain ⟨hp, g, d, tk, os⟩ := s
    have f1 := F.sub_dict_tuple
    wp_walk using wpAny_loadPart' hb, wpAny_loadPart' ha
    exact ⟨_, rfl, h⟩
section
open PySem.W
variable {prog : Program} {w : World} {A : Around} {E : Value → Shared → Prop} {s : Shared}
theorem cmp_dict_tuple {a b : Addr} {ka : List (Key × Value)} {its : Array Value} {Q : Value → Shared → Prop} (da : s.heap.DictOf (mixKind prog w) a ka) (hb : IsTup s.heap b its) (hu : A.units < cLine) (h : Q (.bool false) s) :
    wpAny (model prog w) A (compareOp .Eq (.ref a) (.ref b)) Q E s := by
  have ta := da.typeIs
  obtain ⟨⟨bc, bd, bdt, bsl⟩, eb, cb, n, db⟩ := hb
  obtain ⟨⟨ac, ad, adt, asl⟩, ea, ca⟩ := id ta
  simp only at cb db ca
  subst cb db ca
  have tb : s.TypeIs (.ref b) "tuple" := ⟨_, eb, rfl⟩
  have ne : a ≠ b := fun e => by
    rw [e, eb] at ea
    have e3 : Value.type "tuple" = Value.type "dict" := congrArg Obj.cls (Option.some.inj ea)
    injection e3 with e4
    exact absurd e4 (by decide)
  refine SeqAt.rc_eq_decline_or (k := false) ta tb (by decide) F.sub_tuple_dict F.slot_dict_eq F.slot_tuple_eq_refl (fun Q' hq => ?_)
    (fun Q' hq => call_meets F.slot_tuple_eq_refl tb F.entry_tuple_eq (F.args_tuple_eq_2 _ _) (tuple_no_dict b a its n bd ad bsl asl adt) ⟨eb, ea, hq⟩) (fun Q' hq => wpAny_isSame_ref_other ne ea eb (by simp) hq) (.inr hu) h
  refine wpAny_call_entry F.slot_dict_eq ta F.entry_dict_eq ?_ (F.args_dict_eq_2 _ _)
  show wpAny _ _ (Builtin.Dict.dictSlotArgs "__eq__" ⟨[.ref a, .ref b], []⟩ >>= _) _ _ s
  unfold Builtin.Dict.dictSlotArgs
  refine wpAny_bind (wpAny_bind (wpAny_notOrdered_dict ta (wpAny_pure ?_)))
  refine wpAny_bind (wpAny_isInstance tb F.sub_tuple_dict ?_)
  rw [if_pos (by rfl)]
  refine wpAny_bind (wpAny_rule (wpAny_pure ?_))
  exact ⟨_, rfl, hq⟩
end
/-- == of data, or of a dict and a tuple -/
def rEqDT (K : PySem.W.Frag) : R2 := fun x y H Q => rEqD K x y H Q ∨ ∃ a b ks xs, x = .ref a ∧ y = .ref b ∧ H a = some (.dK ks) ∧ SqT K H b xs ∧ Q (.bl false) H
theorem op_eqDT {X : Cx} (hu : X.A.units + 64 < cLine) : OpR X (compareOp .Eq) (rEqDT X.K) := by
  intro pins s σ H x y v u Q I rx ry h
  rcases h with h | ⟨a, b, ks, xs, rfl, rfl, ea, eb, q⟩
  · exact op_eqD hu pins s σ H x y v u Q I rx ry h
  obtain rfl : v = Value.ref a := rx
  obtain rfl : u = Value.ref b := ry
  obtain ⟨_, ya, va, ra, da⟩ := (show ObjOk X.prog X.w H s.heap a (.dK ks) from I.hok a _ ea)
  obtain ⟨its, _, tb, _⟩ := I.tuple eb
  exact cmp_dict_tuple da tb (by omega) ⟨.bl false, H, I, rfl, q⟩
end RM

set_option Elab.async false
set_option linter.all false
set_option maxRecDepth 100000
set_option maxHeartbeats 8000000
namespace RM
open PySem PySem.Spec PyProof.Rows L2
section
variable {P : Program} {w : World} {K : PySem.W.Frag} {mg : Str → Option Value} {base : Heap}
/-- a body stands at r, apart from the draws at d -/
def Stands (K : PySem.W.Frag) (H : Hp) (d sc r : Addr) (ds : List PyData) : Prop := DrawAt K H d sc ∧ r ≠ d ∧ ∃ ys, H r = some (.lst ys) ∧ DpAll K (del H d) ys ds
theorem Stands.but {H H' : Hp} {d sc r : Addr} {ds : List PyData} (h : Stands K H d sc r ds) (b : But d H H') (dr : DrawAt K H' d sc) : Stands K H' d sc r ds :=
  let ⟨_, n, ys, h1, h2⟩ := h; ⟨dr, n, ys, b.get n h1, DpAll.keep b h2⟩
theorem Stands.keep {H H' : Hp} {d sc r : Addr} {ds : List PyData} (h : Stands K H d sc r ds) (e : Same H H') : Stands K H' d sc r ds := h.but (but_sm e) (h.1.keep e)
theorem Stands.dp {H : Hp} {d sc r : Addr} {ds : List PyData} (h : Stands K H d sc r ds) : Dp K H (.ref r) (seqD true ds) :=
  let ⟨_, _, ys, h1, h2⟩ := h; .lst (SqL.of h1) (DpAll.keep (del_sm _ _) h2)
theorem pair_rep {H : Hp} {d : PyData} : ∀ {ys : List V} {us : List Unit}, Paired (fun y (_ : Unit) => Dp K H y d) ys us → DpAll K H ys (List.replicate us.length d)
  | _, _, .nil => .nil
  | _, _, .cons h t => .cons h (pair_rep t)
theorem ts_del {H : Hp} {d : Addr} {u : List V} (h : H d = some (.lst u)) : TS K H (del H d) := fun a xs q => by
  have ne : ∀ {o : HO}, H a = some o → (∀ l, o ≠ .lst l) → del H d a = some o := fun {o} e n => by
    rw [del_ne (fun z => by rw [z, h] at e; exact n _ (Option.some.inj e).symm)]
    exact e
  rcases q with (q | ⟨o, q⟩) | q
  · exact .inl (.inl (ne q fun l z => nomatch z))
  · exact .inl (.inr ⟨o, ne q fun l z => nomatch z⟩)
  · exact .inr q
theorem waits_w : ∀ n, wB (List.replicate n .wait) = true
  | 0 => rfl
  | n + 1 => by rw [List.replicate_succ, wB, waits_w n]; rfl
theorem waits_c : ∀ n, cB (List.replicate n .wait) = n
  | 0 => rfl
  | n + 1 => by rw [List.replicate_succ, cB, waits_c n]; show 1 + n = n + 1; omega
theorem waits_d : ∀ (l : List Stm) n, dB (l ++ List.replicate n .wait) ≤ dB l
  | [], 0 => Nat.le_refl _
  | [], n + 1 => by
    have h := waits_d [] n
    rw [List.nil_append] at h ⊢
    rw [List.replicate_succ, dB]
    show max (0 + 1) _ ≤ 1
    have : dB ([] : List Stm) = 1 := rfl
    omega
  | s :: r, n => by
    rw [List.cons_append, dB, dB]
    have := waits_d r n
    omega
theorem waits_e (n : Nat) : encB true (List.replicate n .wait) = List.replicate n (.tuple [.str "wait"]) := by rw [encB_map, List.map_replicate]; rfl
theorem path_lay : ∀ p : List Int, PyData.canLayAll0 (p.map .int) = true
  | [] => rfl
  | i :: r => by
    rw [List.map_cons, PyData.canLayAll0, path_lay r]
    rfl
theorem path_dep : ∀ p : List Int, PyData.depthAll (p.map .int) ≤ 1
  | [] => by simp [PyData.depthAll]
  | i :: r => by
    have := path_dep r
    simp only [List.map_cons, PyData.depthAll, PyData.depth]
    omega
theorem path_lay0 (p : List Int) : (pathD p).canLay0 = true := path_lay p
theorem path_shaped (p : List Int) : SeqAt.shaped (pathD p) = true := by
  unfold SeqAt.shaped
  rw [path_lay0, decide_eq_true (by show (PyData.tuple (p.map .int)).depth ≤ 64; simp only [PyData.depth]; have := path_dep p; omega)]
  rfl
theorem path_eq {H : Hp} {v u : V} {p : List Int} {Q : VK} (hv : Dp K H v (pathD p)) (hu : Dp K H u (pathD p)) (q : Q (.bl true) H) : rEqD K v u H Q :=
  ⟨_, _, hv, hu, path_shaped p, path_shaped p, by rw [SeqAt.eqv_refl _ (path_lay0 p)]; exact q⟩
/-- one of the strange bodies: how it compares with ('wait',), what is told of it -/
def OddV (K : PySem.W.Frag) (H : Hp) (v : V) (due : List Int) : Prop :=
  (due = [] ∨ due = [0]) ∧
  (∀ (H' : Hp) (t : Addr) (Q : VK), Same H H' → SqT K H' t [.str "wait"] → Q (.bl (decide (due = [0]))) H' → rEqDT K v (.ref t) H' Q) ∧
  (∀ (H' : Hp) (Q : VK) (E : XK), Same H H' → (∀ u H'', Same H' H'' → Dp K H'' u (pathD due) → Q u H'') → spTold K [v] H' Q E)
theorem no_seq {a : String} (h1 : kitB a "list" = some false) (h2 : kitB a "tuple" = some false) : PySem.W.kitAny K (.type a) [.type "list", .type "tuple"] = some false :=
  kitAny_cons (b := false) (kit_ty h1) (fun _ => kitAny_cons (b := false) (kit_ty h2) (fun _ => rfl) (fun z => by cases z)) (fun z => by cases z)
theorem odd_flat {H : Hp} {v : V} {e : PyData} (hv : ∀ H', Dp K H' v e) (sh : SeqAt.shaped e = true) (ne : PyData.eqv e (.tuple [.str "wait"]) = false) (ty : ∀ H', ∃ ty, TyX K H' v ty ∧ PySem.W.kitAny K ty [.type "list", .type "tuple"] = some false) : OddV K H v [] := by
  refine ⟨.inl rfl, fun H' t Q s ht q => .inl ⟨e, .tuple [.str "wait"], hv H', .tup ht (.cons (.str _) .nil), sh, by decide +kernel, ?_⟩, fun H' Q E s q => .inl ⟨fun H'' _ => ty H'', fun v H'' s2 h => q v H'' s2 h⟩⟩
  rw [ne]
  exact q
def spLaw (K : PySem.W.Frag) : Sp := fun vs H Q _ => match vs with
  | [x] => ∃ (a : Addr) (xs : List Int), x = .ref a ∧ SqL K H a (xs.map V.int) ∧ ∀ H', Q (.bl true) H'
  | _ => False
theorem sc_law : FnScope ["_law_script", "_law_draws", "_law_body_here", "_law_k", "_law_way", "_law_odd", "_law_due"] ["_law_script"] (defScope s_law) := ⟨rfl, rfl, rfl, by decide +kernel, rfl, by decide +kernel, by decide +kernel⟩
theorem keys2 : ∀ k ∈ (["a", "url"] : List Str), isWord k = true := by decide +kernel
theorem b_law (T : Top w K mg) : Body0 P w K mg base ["_law_script", "_law_draws", "_law_body_here", "_law_k", "_law_way", "_law_odd", "_law_due"] "law" s_law (He.ga K "law") 22 (spLaw K) := by
  intro cdv A outer s H0 vs Q E hr h
  match vs, h with
  | [x], h =>
  obtain ⟨a, xs, rfl, ha, q⟩ := h
  refine ⟨_, (pss_cons (ps_set (i := 1) sc_law.nd rfl (Or.inl rfl) (pc (c_law_begin T) hr (pa_cons (pv 0) pa_nil)))
    (pss_cons (ps_set (i := 2) sc_law.nd rfl (Or.inl rfl) (pc (c_law_body T 4) hr (pa_cons (pv 1) (pa_cons (pe_lst (pa_cons pe_str (pa_cons pe_str pa_nil))) (pa_cons pe_int (pa_cons pe_int pa_nil))))))
    (pss_cons (ps_for PassesOwn.never rfl (pi_range1 rfl (z_range T) (pa_cons (pc (c_law_draw T) hr (pa_cons (pv 1) (pa_cons pe_int pa_nil))) pa_nil)) (pg_name (i := 3) sc_law.nd rfl (Or.inl rfl))
      (pss_one (ps_set (i := 2) sc_law.nd rfl (Or.inl rfl) (pe_lst (pa_cons (pe_tup (pa_cons pe_str (pa_cons (pe_op op_add pe_int (pc (c_law_draw T) hr (pa_cons (pv 1) (pa_cons pe_int pa_nil)))) (pa_cons (pv 2) pa_nil)))) pa_nil)))))
    (pss_cons (ps_set (i := 4) sc_law.nd rfl (Or.inl rfl) (pc (c_law_draw T) hr (pa_cons (pv 1) (pa_cons pe_int pa_nil))))
    (pss_cons (ps_mid (ps_if (pt_cmpR op_eq (pv 4) pe_int (nomark _))
      (pss_one (ps_set (i := 2) sc_law.nd rfl (Or.inl rfl) (pe_op op_cat (pv 2) (pe_lc (own := [("_law_k", 3)]) rfl sc_law.nd (pi_range1 rfl (z_range T) (pa_cons (pe_op op_add pe_int (pc (c_law_draw T) hr (pa_cons (pv 1) (pa_cons pe_int pa_nil)))) pa_nil)) (blkOk_by (own := [("_law_k", 3)]) (N := ["_law_script", "_law_draws", "_law_body_here", "_law_k", "_law_way", "_law_odd", "_law_due"]) (sc := defScope s_law) (by decide +kernel)) (fun _ _ _ _ _ => (pg_name (i := 3) sc_law.nd rfl (Or.inl rfl) (Or.inr rfl))) (fun _ _ _ _ _ => pts_nil) (fun _ _ _ _ _ => (pe_tup (pa_cons pe_str pa_nil)))))))
      pss_nil))
    (pss_cons (ps_mid (ps_if (PW.pt (pw_and (pt_cmpR op_eq (pv 4) pe_int (nomark _)) (pw_and (pt_cmpR op_gt (pcb (z_len T) call_len_seq boot_len (pa_cons (pv 2) pa_nil)) pe_int (nomark _)) (pw_and1 (pt_val (pcb (z_isinstance T) call_isi boot_isinstance (pa_cons (pe_ix ix_list (pv 2) pe_int (fun _ _ => rfl)) (pa_cons (pty (z_tuple T) boot_tuple) pa_nil))))))))
      (pss_one (ps_set (i := 2) sc_law.nd rfl (Or.inl rfl) (pc (c_law_spoiled T 8) hr (pa_cons (pv 1) (pa_cons (pv 2) pa_nil)))))
      pss_nil))
    (pss_cons (ps_if (pt_cmpR op_eq (pv 4) pe_int (nomark _))
      (pss_cons (ps_set (i := 5) sc_law.nd rfl (Or.inl rfl) (pe_ix ix_list (pe_lst (pa_cons pe_non (pa_cons pe_str (pa_cons pe_int (pa_cons (pe_tup (pa_cons pe_str pa_nil)) (pa_cons pe_dnewK pa_nil)))))) (pc (c_law_draw T) hr (pa_cons (pv 1) (pa_cons pe_int pa_nil))) (fun _ _ => rfl)))
    (pss_cons (ps_set (i := 6) sc_law.nd rfl (Or.inl rfl) (pe_tup pa_nil))
    (pss_cons (ps_mid (ps_if (pt_cmpR (op_eqDT (room64 hr)) (pv 5) (pe_tup (pa_cons pe_str pa_nil)) (nomark _))
      (pss_one (ps_set (i := 6) sc_law.nd rfl (Or.inl rfl) (pe_tup (pa_cons pe_int pa_nil))))
      pss_nil))
    (pss_one (ps_ret (pe_cmpR (op_eqD (room64 hr)) (pc (c_law_told T) hr (pa_cons (pv 5) pa_nil)) (pv 6) (nomark _)))))))
      pss_nil)
    (pss_cons (ps_set (i := 6) sc_law.nd rfl (Or.inl rfl) (pc (c_law_wrong T 8) hr (pa_cons (pv 2) (pa_cons (pe_tup pa_nil) pa_nil))))
    (pss_cons (ps_mid (ps_if (pt_cmp (pc_isN (pv 6)) rfl)
      (pss_cons (ps_set (i := 6) sc_law.nd rfl (Or.inl rfl) pe_str)
    (pss_one (ps_mid (ps_if (pt_cmpR op_gt (pc (c_law_count T 8) hr (pa_cons (pv 2) pa_nil)) pe_int (nomark _))
      (pss_one (ps_set (i := 6) sc_law.nd rfl (Or.inl rfl) pe_str))
      (pss_one (ps_if (pt_cmpR op_gt (pc (c_law_deep T 8) hr (pa_cons (pv 2) pa_nil)) pe_int (nomark _))
      (pss_one (ps_set (i := 6) sc_law.nd rfl (Or.inl rfl) pe_str))
      pss_nil))))))
      pss_nil))
    (pss_one (ps_ret (pe_and (pe_cmpR (op_eqD (room64 hr)) (pc (c_law_told T) hr (pa_cons (pv 2) pa_nil)) (pv 6) (nomark _)) (pe_one (pe_cmpR (op_eqD (room64 hr)) (pc (c_law_told T) hr (pa_cons (pct (z_tuple T) call_tuple_of boot_tuple (pa_cons (pv 2) pa_nil)) pa_nil)) (pv 6) (nomark _))))))))))))))), ?_⟩
  refine ⟨_, rfl, a, xs, rfl, ha, fun d sc H1 s1 nd da => ?_⟩
  refine ⟨_, rfl, (by show 2 ≤ sizeLine; decide), fun nm hnm => ?_⟩
  have s2 := smNew1 hnm (.lst [.str "a", .str "url"])
  have hnd : nm ≠ d := fun e => da.1.ne (by rw [← e]; exact hnm)
  obtain ⟨H2, eH2⟩ : ∃ H2, H2 = upd H1 nm (.lst [.str "a", .str "url"]) := ⟨_, rfl⟩
  rw [← eH2] at s2 ⊢
  have hnm2 : H2 nm = some (.lst ((["a", "url"] : List Str).map V.str)) := by rw [eH2]; exact upd_same
  have c2 : Ctx K H2 d sc nm ["a", "url"] := ⟨da.keep s2, SqL.of (by rw [del_ne hnd]; exact hnm2), by decide, by decide, keys2⟩
  refine ⟨d, sc, nm, _, 2, 5, rfl, rfl, rfl, rfl, by decide, by decide, by decide, c2, fun r l ys H3 wl kl dl cl b3 d3 nr hr3 hys => ?_⟩
  have cl' : cB l ≤ 105 := Nat.le_trans cl (by decide)
  have rd : r ≠ d := fun e => c2.1.1.ne (by rw [← e]; exact nr)
  have st3 : Stands K H3 d sc r (encB true l) := ⟨d3, rd, ys, hr3, DpAll.keep ((del_sm _ _).trans (nw_off c2.1.1.ne)) hys⟩
  -- wrapped in repeats
  refine ⟨_, rfl, d, sc, _, rfl, rfl, d3, by decide, by decide, fun k H4 k0 k1 b4 d4 => ?_⟩
  obtain ⟨m, rfl, hm⟩ := draw_of k0 k1
  refine ⟨_, rfl, by omega, by omega, ?_⟩
  refine for_it (walk_range (lo := 0) (n := m)) (fun i σ H' => ∃ r l, Stands K H' d sc r (encB true l) ∧ wB l = true ∧ dB l ≤ 3 + i ∧ cB l ≤ 105 + i ∧ ∃ v3 v4 v5 v6, σ = [some (.ref a), some (.ref d), some (.ref r), v3, v4, v5, v6]) ⟨r, l, st3.but b4 d4, wl, dl, cl', _, _, _, _, rfl⟩ (fun _ _ _ _ _ => trivial) ?_ ?_
  · rintro i x σ H5 H6 hi ⟨r5, l5, st5, w5, dl5, cl5, v3, v4, v5, v6, rfl⟩ ⟨rfl, rfl⟩
    refine ⟨_, rfl, d, sc, _, rfl, rfl, st5.1, by decide, by decide, fun e H7 e0 e1 b7 d7 => ?_⟩
    have st7 := st5.but b7 d7
    refine ⟨_, _, rfl, rfl, _, rfl, (by show 3 ≤ sizeLine; decide), fun p hp => ?_⟩
    have e7 := smNew1 hp (.tup [.str "repeat", .int (1 + e), .ref r5])
    refine ⟨(by show 1 ≤ sizeLine; decide), fun p2 hp2 => ?_⟩
    have e8 := smNew1 hp2 (.lst [.ref p])
    have nd7 := d7.1.ne
    have pd : p ≠ d := fun z => nd7 (by rw [← z]; exact hp)
    have st9 := (st7.keep e7).keep e8
    refine ⟨p2, [.rep (1 + e) l5], ⟨st9.1, fun z => (d7.keep e7).1.ne (by rw [← z]; exact hp2), [.ref p], upd_same, ?_⟩, ?_, ?_, ?_, _, _, _, _, rfl⟩
    · obtain ⟨_, n9, ys9, h9, dd9⟩ := st9
      refine .cons (.tup (xs := [.str "repeat", .int (1 + e), .ref r5]) (SqT.of ?_) (.cons (.str _) (.cons (.int _) (.cons (.lst (SqL.of ?_) dd9) .nil)))) .nil
      · rw [del_ne pd]
        exact e8 _ _ upd_same
      · rw [del_ne n9]
        exact h9
    · show ((decide (0 ≤ 1 + e) && decide (1 + e ≤ 3)) && wB l5) && true = true
      rw [decide_eq_true (by omega), decide_eq_true (by omega), w5]
      rfl
    · show max (dB l5 + 1) 1 ≤ 3 + (i + 1)
      omega
    · show 1 + cB l5 + 0 ≤ 105 + (i + 1)
      omega
  rintro σ H5 ⟨r5, l5, st5, w5, dl5, cl5, v3, v4, v5, v6, rfl⟩
  refine ⟨_, rfl, d, sc, _, rfl, rfl, st5.1, by decide, by decide, fun way H6 way0 way1 b6 d6 => ?_⟩
  have st6 := st5.but b6 d6
  clear st5 b6
  -- more statements
  refine ⟨fun σ H' => ∃ r l v3 v5 v6, Stands K H' d sc r (encB true l) ∧ wB l = true ∧ dB l ≤ 6 ∧ cB l ≤ 200 ∧ σ = [some (.ref a), some (.ref d), some (.ref r), v3, some (.int way), v5, v6], ?_, ?_⟩
  · refine ⟨_, rfl, rfl, _, rfl, ifB (fun c => ?_) (fun c => ?_)⟩
    · obtain ⟨_, rd6, ys6, hr6, dd6⟩ := id st6
      refine ⟨_, rfl, ?_⟩
      refine ⟨_, rfl, d, sc, _, rfl, rfl, st6.1, by decide, by decide, fun e H7 e0 e1 b7 d7 => ?_⟩
      obtain ⟨ke, rfl, hke⟩ := draw_of e0 e1
      refine ⟨_, _, rfl, rfl, _, rfl, by omega, by omega, ?_⟩
      rw [show ((57 : Int) + (ke : Int)).toNat = 57 + ke by omega]
      intro D nD
      refine lc_opt (walk_range (lo := 0) (n := 57 + ke)) (fun (_ : Unit) y H => Dp K H y (.tuple [.str "wait"])) (fun _ => some ()) nD (small1000 (by omega)) (fun _ _ => trivial) (fun _ _ _ _ h e => Dp.keep e h) (fun _ _ _ _ _ h e => dp_ts (ts_upd _ e trivial) h rfl) ?_ ?_
      · rintro j y H8 H9 N hj e ⟨rfl, rfl⟩ hk _
        exact ⟨rfl, yesI ⟨(by show 1 ≤ sizeLine; decide), fun p hp => hk _ _ () rfl (smNew1 hp _) (.tup (SqT.of upd_same) (.cons (.str _) .nil))⟩⟩
      intro H8 ys8 e8 hD hp'
      rw [range_some] at hp'
      have w8 := pair_rep hp'
      rw [List.length_map, List.length_range] at w8
      have st8 := (st6.but b7 d7).keep e8
      obtain ⟨d8, _, ys9, h9, dd9⟩ := id st8
      have l9 : ys9.length = l5.length := by rw [DpAll.len dd9, encB_map, List.length_map]
      have l8 : ys8.length = 57 + ke := by rw [DpAll.len w8, List.length_replicate]
      have ll := cB_len l5
      refine ⟨r5, D, ys9, ys8, rfl, rfl, h9, hD, Nat.le_of_lt (small1000 (by omega)), fun p9 hp9 => ?_⟩
      have e9 := smNew1 hp9 (.lst (ys9 ++ ys8))
      obtain ⟨q1, q2, q3, hd8, _⟩ := id d8.1
      refine ⟨p9, l5 ++ List.replicate (57 + ke) .wait, _, _, _, ⟨d8.keep e9, fun z => d8.1.ne (by rw [← z]; exact hp9), _, upd_same, ?_⟩, ?_, ?_, ?_, rfl⟩
      · rw [encB_map, List.map_append, ← encB_map, ← encB_map, waits_e]
        refine DpAll.keep (but_sm e9) (DpAll.app dd9 (dps_ts (ts_del hd8) w8 (noLs_of fun x hx => ?_)))
        rw [(List.mem_replicate.mp hx).2]
        rfl
      · rw [wB_app, w5, waits_w]
        rfl
      · have := waits_d l5 (57 + ke)
        omega
      · rw [cB_app, waits_c]
        omega
    · exact ⟨r5, l5, _, _, _, st6, w5, by omega, by omega, rfl⟩
  rintro σ H7 ⟨r7, l7, v3, v5, v6, st7, w7, dl7, cl7, rfl⟩
  clear st6
  -- spoiled
  refine ⟨fun σ H' => ∃ r v3 v5 v6, ((∃ l, Stands K H' d sc r (encB true l) ∧ wB l = true ∧ dB l ≤ 6 ∧ cB l ≤ 200) ∨ ∃ c : Bad, Stands K H' d sc r c.enc ∧ c.ok ∧ c.deep ≤ 6 ∧ c.small) ∧ σ = [some (.ref a), some (.ref d), some (.ref r), v3, some (.int way), v5, v6], ?_, ?_⟩
  · obtain ⟨d7, rd7, ys7, hr7, dd7⟩ := id st7
    have l7' : ys7.length = l7.length := by rw [DpAll.len dd7, encB_map, List.length_map]
    have stay : ∃ r v3' v5' v6', ((∃ l, Stands K H7 d sc r (encB true l) ∧ wB l = true ∧ dB l ≤ 6 ∧ cB l ≤ 200) ∨ ∃ c : Bad, Stands K H7 d sc r c.enc ∧ c.ok ∧ c.deep ≤ 6 ∧ c.small) ∧ [some (V.ref a), some (.ref d), some (.ref r7), v3, some (.int way), v5, v6] = [some (V.ref a), some (.ref d), some (.ref r), v3', some (.int way), v5', v6'] :=
      ⟨r7, v3, v5, v6, .inl ⟨l7, st7, w7, dl7, cl7⟩, rfl⟩
    refine ⟨_, rfl, rfl, _, rfl, ifB (fun c => ?_) (fun _ => ifF rfl stay)⟩
    refine ⟨_, rfl, r7, ys7, rfl, .inl (SqL.of hr7), _, _, rfl, rfl, _, rfl, ifB (fun c2 => ?_) (fun _ => ifF rfl stay)⟩
    have p0 : 0 < ys7.length := by
      have : (0 : Int) < (ys7.length : Nat) := of_decide_eq_true c2
      omega
    obtain ⟨y0, hy0⟩ : ∃ y, ys7[0]? = some y := ⟨ys7[0]'p0, by simp⟩
    obtain ⟨dy, hdy, dpy⟩ := DpAll.getV dd7 hy0
    obtain ⟨st, hst, rfl⟩ := encB_get hdy
    obtain ⟨sa, sxs, rfl, hsa, _⟩ := shape_of dpy
    refine ⟨_, rfl, r7, ys7, _, _, rfl, rfl, SqL.of hr7, atI_nat (j := 0) hy0, _, _, _, _, true, rfl, .ty _, tyT (smT (del_sm _ _) hsa), kit_ty (by decide +kernel), _, rfl, ifT rfl ?_⟩
    refine ⟨_, rfl, _, rfl, d, sc, r7, ys7, l7, rfl, rfl, d7, SqL.of (by rw [del_ne rd7]; exact hr7), dd7, w7, by omega, by omega, fun r9 ys9 c H9 b9 d9 hr9 r9d dd9 okc dpc smc => ?_⟩
    exact ⟨r9, _, _, _, .inr ⟨c, ⟨d9, r9d, ys9, hr9, dd9⟩, okc, by omega, smc⟩, rfl⟩
  rintro σ H8 ⟨r8, v3, v5, v6, h8, rfl⟩
  refine ⟨_, rfl, rfl, _, rfl, ifB (fun c => ?_) (fun c => ?_)⟩
  · have dr8 : DrawAt K H8 d sc := by rcases h8 with ⟨l, h, _⟩ | ⟨c, h, _⟩ <;> exact h.1
    refine ⟨(by show 1 ≤ sizeLine; decide), fun p1 hp1 => ?_⟩
    intro p2 hp2
    refine ⟨(by show 5 ≤ sizeLine; decide), fun p3 hp3 => ?_⟩
    have e1 := smNew1 hp1 (.tup [.str "wait"])
    have e2 := smNew e1 hp2 (.dK [])
    have e3 := smNew e2 hp3 (.lst [.non, .str "x", .int 5, .ref p1, .ref p2])
    have n1 : p1 ≠ d := fun e => dr8.1.ne (by rw [← e]; exact hp1)
    have n2 : p2 ≠ d := fun e => (dr8.keep e1).1.ne (by rw [← e]; exact hp2)
    have n3 : p3 ≠ d := fun e => (dr8.keep e2).1.ne (by rw [← e]; exact hp3)
    refine ⟨_, rfl, d, sc, _, rfl, rfl, dr8.keep e3, by decide, by decide, fun ko H9 k0 k1 b9 d9 => ?_⟩
    obtain ⟨ko, rfl, hko⟩ := draw_of k0 k1
    have h1 : H9 p1 = some (.tup [.str "wait"]) := b9.get n1 (smNew (smNew1 hp2 _) hp3 _ _ _ upd_same)
    have h2 : H9 p2 = some (.dK []) := b9.get n2 (smNew1 hp3 _ _ _ upd_same)
    have h3 : H9 p3 = some (.lst [.non, .str "x", .int 5, .ref p1, .ref p2]) := b9.get n3 upd_same
    obtain ⟨v, due, hv, ho⟩ : ∃ v due, atI [V.non, .str "x", .int 5, .ref p1, .ref p2] (ko : Int) = some v ∧ OddV K H9 v due := by
      have kk : ko = 0 ∨ ko = 1 ∨ ko = 2 ∨ ko = 3 ∨ ko = 4 := by omega
      rcases kk with rfl | rfl | rfl | rfl | rfl
      · exact ⟨.non, [], rfl, odd_flat (fun _ => .non) (by decide +kernel) (by decide +kernel) fun _ => ⟨_, .base .non, no_seq (by decide +kernel) (by decide +kernel)⟩⟩
      · exact ⟨.str "x", [], rfl, odd_flat (fun _ => .str _) (by decide +kernel) (by decide +kernel) fun _ => ⟨_, .base (.str _), no_seq (by decide +kernel) (by decide +kernel)⟩⟩
      · exact ⟨.int 5, [], rfl, odd_flat (fun _ => .int _) (by decide +kernel) (by decide +kernel) fun _ => ⟨_, .base (.int _), no_seq (by decide +kernel) (by decide +kernel)⟩⟩
      · have dp : ∀ H', Same H9 H' → Dp K H' (.ref p1) (.tuple [.str "wait"]) := fun H' s' => .tup (SqT.of (s' _ _ h1)) (.cons (.str _) .nil)
        refine ⟨.ref p1, [0], rfl, .inr rfl, fun H' t Q s' ht q => .inl ⟨_, .tuple [.str "wait"], dp H' s', .tup ht (.cons (.str _) .nil), by decide +kernel, by decide +kernel, ?_⟩, fun H' Q E s' q => .inr (.inl ⟨false, .odd [] (.str "wait") [], dp H' s', ⟨rfl, .inl (.str _)⟩, by show dB [] ≤ 8; decide, fun v H'' s2 h => q v H'' s2 h⟩)⟩
        rw [show PyData.eqv (.tuple [.str "wait"]) (.tuple [.str "wait"]) = true by decide +kernel]
        exact q
      · refine ⟨.ref p2, [], rfl, .inl rfl, fun H' t Q s' ht q => .inr ⟨p2, t, [], _, rfl, rfl, s' _ _ h2, ht, q⟩, fun H' Q E s' q => .inl ⟨fun H'' s2 => ⟨_, .base (.dK (s2 _ _ (s' _ _ h2))), no_seq (by decide +kernel) (by decide +kernel)⟩, fun v H'' s2 h => q v H'' s2 h⟩⟩
    obtain ⟨due2, heq, htold⟩ := ho
    refine ⟨p3, _, _, v, rfl, rfl, SqL.of h3, hv, ?_⟩
    refine ⟨(by show 0 ≤ sizeLine; decide), fun p4 hp4 => ?_⟩
    have e10 := smNew1 hp4 (.tup [])
    refine ⟨fun σ H' => ∃ u, Same H9 H' ∧ Dp K H' u (pathD due) ∧ σ = [some (.ref a), some (.ref d), some (.ref r8), v3, some (.int way), some v, some u], ?_, ?_⟩
    · refine ⟨_, rfl, (by show 1 ≤ sizeLine; decide), fun p5 hp5 => ?_⟩
      have e11 := smNew e10 hp5 (.tup [.str "wait"])
      refine heq _ p5 _ e11 (SqT.of upd_same) ?_
      refine ⟨_, rfl, ifB (fun c => ?_) (fun c => ?_)⟩
      · have ed := of_decide_eq_true c
        refine ⟨(by show 1 ≤ sizeLine; decide), fun p6 hp6 => ?_⟩
        exact ⟨.ref p6, smNew e11 hp6 _, by rw [ed]; exact path_dp (p := [0]) (SqT.of upd_same), rfl⟩
      · have ed : due = [] := due2.resolve_right (of_decide_eq_false c)
        exact ⟨.ref p4, e11, by rw [ed]; exact path0 (SqT.of (smNew1 hp5 _ _ _ upd_same)), rfl⟩
    · rintro σ H11 ⟨u, e11, hu, rfl⟩
      refine ⟨_, rfl, htold H11 _ E0 e11 fun u2 H12 e12 hu2 => ?_⟩
      exact ⟨_, rfl, path_eq hu2 (Dp.keep e12 hu) (q H12)⟩
  · rcases h8 with ⟨l, st8, wl8, dl8, cl8⟩ | ⟨c, st8, okc, dpc, smc⟩
    · refine ⟨_, rfl, (by show 0 ≤ sizeLine; decide), fun p1 hp1 => ?_⟩
      have e1 := smNew1 hp1 (.tup [])
      refine ⟨true, [], path0 (SqT.of upd_same), by show 0 + 2 * 8 ≤ 1000; omega, .inl ⟨l, (st8.keep e1).dp, wl8, by omega, by omega, fun H9 e9 => ?_⟩⟩
      have st9 := st8.keep (e1.trans e9)
      have ll := cB_len l
      obtain ⟨W, hW⟩ : ∃ W : Str, W = if 60 < cB l then "long" else if 4 < dB l then "deep" else "good" := ⟨_, rfl⟩
      refine ⟨fun σ H' => Same H9 H' ∧ σ = [some (.ref a), some (.ref d), some (.ref r8), v3, some (.int way), v5, some (.str W)], ?_, ?_⟩
      · refine ⟨_, rfl, _, rfl, ifT rfl ?_⟩
        refine ⟨fun σ H' => Same H9 H' ∧ σ = [some (.ref a), some (.ref d), some (.ref r8), v3, some (.int way), v5, some (.str W)], ?_, fun σ H' h => h⟩
        refine ⟨_, rfl, true, l, st9.dp, by omega, fun H10 e10 => ?_⟩
        refine ⟨_, _, rfl, rfl, _, rfl, ifB (fun c => ?_) (fun c => ?_)⟩
        · have c' : (60 : Int) < ((cB l : Nat) : Int) := of_decide_eq_true c
          rw [if_pos (by omega : 60 < cB l)] at hW
          subst hW
          exact ⟨e10, rfl⟩
        · have c' : ¬ (60 : Int) < ((cB l : Nat) : Int) := of_decide_eq_false c
          rw [if_neg (by omega : ¬ 60 < cB l)] at hW
          refine ⟨_, rfl, true, l, (st9.keep e10).dp, by omega, by omega, by omega, fun H11 e11 => ?_⟩
          refine ⟨_, _, rfl, rfl, _, rfl, ifB (fun c2 => ?_) (fun c2 => ?_)⟩
          · have c3 : (4 : Int) < ((dB l : Nat) : Int) := of_decide_eq_true c2
            rw [if_pos (by omega : 4 < dB l)] at hW
            subst hW
            exact ⟨e10.trans e11, rfl⟩
          · have c3 : ¬ (4 : Int) < ((dB l : Nat) : Int) := of_decide_eq_false c2
            rw [if_neg (by omega : ¬ 4 < dB l)] at hW
            subst hW
            exact ⟨e10.trans e11, rfl⟩
      · rintro σ H10 ⟨e10, rfl⟩
        have st10 := st9.keep e10
        have told : ∀ (fl : Bool) (b : V) (H' : Hp) (Q' : VK), Dp K H' b (seqD fl (encB true l)) → (∀ H'', Same H' H'' → Q' (.str W) H'') → spTold K [b] H' Q' E0 := fun fl b H' Q' hb q' => .inr (.inr ⟨fl, l, hb, wl8, by omega, by omega,
          fun h1 h2 H'' s => by rw [if_neg (by omega), if_neg (by omega)] at hW; rw [← hW]; exact q' H'' s, fun h1 H'' s => by rw [if_pos h1] at hW; rw [← hW]; exact q' H'' s,
          fun h1 h2 H'' s => by rw [if_neg (by omega), if_pos h2] at hW; rw [← hW]; exact q' H'' s⟩)
        have eqs : ∀ (H' : Hp) (Q' : VK), Q' (.bl true) H' → rEqD K (.str W) (.str W) H' Q' := fun H' Q' q' => by
          have sW : SeqAt.shaped (.str W) = true ∧ PyData.eqv (.str W) (.str W) = true := by
            have : W = "long" ∨ W = "deep" ∨ W = "good" := by
              rw [hW]
              split
              · exact .inl rfl
              · split
                · exact .inr (.inl rfl)
                · exact .inr (.inr rfl)
            rcases this with rfl | rfl | rfl <;> exact ⟨by decide +kernel, by decide +kernel⟩
          exact ⟨_, _, .str W, .str W, sW.1, sW.1, by rw [sW.2]; exact q'⟩
        refine ⟨_, rfl, told true _ H10 _ st10.dp fun H11 e11 => ?_⟩
        refine ⟨_, rfl, eqs _ _ ?_⟩
        refine ⟨_, rfl, ifT rfl ?_⟩
        obtain ⟨_, _, ys11, h11, dd11⟩ := st10.keep e11
        refine ⟨_, rfl, r8, ys11, rfl, .inl ⟨SqL.of h11, fun p2 hp2 => ?_⟩⟩
        refine told false (.ref p2) _ _ (.tup (SqT.of upd_same) (DpAll.keep ((del_sm _ _).trans (smNew1 hp2 _)) dd11)) fun H12 e12 => ?_
        exact ⟨_, rfl, eqs _ _ (q _)⟩
    · refine ⟨_, rfl, (by show 0 ≤ sizeLine; decide), fun p1 hp1 => ?_⟩
      have e1 := smNew1 hp1 (.tup [])
      refine ⟨true, [], path0 (SqT.of upd_same), by show 0 + 2 * 8 ≤ 1000; omega, .inr ⟨c, (st8.keep e1).dp, okc, by omega, smc, fun v H9 e9 hv => ?_⟩⟩
      have st9 := st8.keep (e1.trans e9)
      obtain ⟨pv, rfl, hpv⟩ := path_inv hv
      refine ⟨fun σ H' => Same H9 H' ∧ σ = [some (.ref a), some (.ref d), some (.ref r8), v3, some (.int way), v5, some (.ref pv)], ?_, ?_⟩
      · exact ⟨_, rfl, _, rfl, ifF rfl ⟨Same.refl _, rfl⟩⟩
      · rintro σ H10 ⟨e10, rfl⟩
        have st10 := st9.keep e10
        have told : ∀ (fl : Bool) (b : V) (H' : Hp) (Q' : VK), Same H10 H' → Dp K H' b (seqD fl c.enc) → (∀ v H'', Same H' H'' → (∀ Q2 : VK, Q2 (.bl true) H'' → rEqD K v (.ref pv) H'' Q2) → Q' v H'') → spTold K [b] H' Q' E0 := fun fl b H' Q' s' hb q' => .inr (.inl ⟨fl, c, hb, okc, by omega,
          fun v H'' s2 hv2 => q' v H'' s2 fun Q2 q2 => path_eq hv2 (Dp.keep (e10.trans (s'.trans s2)) hv) q2⟩)
        refine ⟨_, rfl, told true _ H10 _ (Same.refl _) st10.dp fun v1 H11 e11 eq1 => ?_⟩
        refine ⟨_, rfl, eq1 _ ?_⟩
        refine ⟨_, rfl, ifT rfl ?_⟩
        obtain ⟨_, _, ys11, h11, dd11⟩ := st10.keep e11
        refine ⟨_, rfl, r8, ys11, rfl, .inl ⟨SqL.of h11, fun p2 hp2 => ?_⟩⟩
        refine told false (.ref p2) _ _ (e11.trans (smNew1 hp2 _)) (.tup (SqT.of upd_same) (DpAll.keep ((del_sm _ _).trans (smNew1 hp2 _)) dd11)) fun v2 H12 e12 eq2 => ?_
        exact ⟨_, rfl, eq2 _ (q _)⟩
end
end RM

set_option Elab.async false
set_option linter.all false
set_option maxRecDepth 100000
set_option maxHeartbeats 0
namespace RM
open PySem PySem.Spec PyProof.Rows L2
theorem law_ok {P : Program} {w : World} {K : PySem.W.Frag} {mg : Str → Option Value} {base : Heap} {fd : FuncData} (T : Top w K mg)
    (F : FunD K "law" "law" (defArgs s_law) (defBody s_law) (defScope s_law) [] [] (He.ga K "law") fd) : FnOk P w K mg base CX0 23 (He.ga K "law") fd ["_law_script"] (spLaw K) :=
  fn_0 F sc_law (fun vs H Q E h => match vs, h with | [_], _ => rfl) (b_law T)
end RM
open PySem PySem.W PySem.Calls PyProof.Rows
theorem PySem.Challenge.cw_readmoments_k03_programs_refused_holds : PySem.Challenge.rw_readmoments_k03_programs_refused.Holds := by
  w_on; o_law
  refine HandSHeadRun.head_any (r := OpenLaw.row PySem.Challenge.rw_readmoments_k03_programs_refused) (q := view (OpenLaw.row PySem.Challenge.rw_readmoments_k03_programs_refused).prog [47]) (H := RM.hk) (ob := RM.ob) (M := 4000) (loose := RM.names)
    (d := HandSHeadRun.topDef (OpenLaw.row PySem.Challenge.rw_readmoments_k03_programs_refused).prog 47) (kwd := []) RM.ob_eq
    (by kernel_rfl) (fun s => by kernel_rfl) RM.run (by kernel_rfl) (by kernel_rfl) (by kernel_rfl) (by rfl) (by first | assumption | decide +kernel) (by decide +kernel) ⟨rfl, rfl, rfl, rfl, rfl, by decide +kernel⟩ ?hw ?hc
  case hw => w_witness2
  case hc =>
    refine L2.walk_ofE (l := PySem.Challenge.rw_readmoments_k03_programs_refused) (n := 63) (k := 23) (x := "_law_script") (CX := L2.CX0) rfl (by decide) (by kernel_rfl) ⟨rfl, by decide, by decide⟩ ?F (fun _ _ _ _ z => z)
    intro w mg fa h Y G hmg0
    have hmg : mg ("law" : PySem.Str) = some (.ref fa) := by
      have e : (HandSHeadRun.topDef (OpenLaw.row PySem.Challenge.rw_readmoments_k03_programs_refused).prog 47).name = ("law" : PySem.Str) := by kernel_rfl
      rw [← e]
      exact hmg0
    obtain ⟨K, KX, c⟩ := Y
    have T : RM.Top w K mg := ⟨h, KX, G, c⟩
    obtain ⟨fd, F⟩ := RM.f_law T
    have e := hmg.symm.trans (RM.g_law T)
    cases e
    have b := L2.FunD.bindsA (ps := ["_law_script"]) F fun _ _ _ _ _ _ us hl => match us, hl with | [_], _ => rfl
    exact ⟨K, fd, RM.spLaw K, KX, fun s v => b s [v] rfl, fun H a ns hl _ hS => ⟨a, ns, rfl, hS, fun _ => rfl⟩, fun base _ _ => RM.law_ok T F⟩

