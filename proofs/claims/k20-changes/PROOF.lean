import PyProof.Rows.All
import Wide.All
import OpenK.AllK
import Wide.FinOn
import HandS.ForMost
import HandS.Exc
import HandS.WordsExc
import HandS.TryMany
import HandS.ExcInit
import HandS.ExcField
import HandS.Defaults
import HandS.IsInst
import HandS.OwnEq
import HandS.DictComp
import HandS.SetKeys
import HandS.Walk
import HandS.Flow
import HandS.Conv
import HandS.TupAny
import HandS.Zip
import HandS.Style
import HandS.HeadHook1
import HandS.HeadHook2
import HandS.HeadHook3
import HandS.HeadHook4
import KE.GoesNew
import KE.GoesEnum
import HandS.SetBool
import HandS.SetFor
import HandS.SetTxt0
import PyProof.Rows.SortShellAny
import KE.KOpsOwn
import PyProof.InstNe
import KE.KStateDown
import HandS.Head0
import HandS.Head1
import HandS.Head2
import HandS.HeadEnd
import HandS.RaiseMore
import PyProof.StrOps2
import KE.KDictList
import KE.KDictSum
import PyProof.TupleOfGen
import HandS.FStr
import PyProof.NeKinds
import PySem.Challenge.RW_readmoments_k20_texts_of_changes
set_option Elab.async false
set_option linter.all false
set_option maxRecDepth 100000
set_option maxHeartbeats 2000000
namespace RM
open PySem PySem.Spec PyProof.Rows L2

/-! ### calls by promise -/
section
variable (P : Program) (w : World) (K : PySem.W.Frag) (mg : Str → Option Value) (base : Heap) (CX : CXT)
/-- a def by its global name -/
def Cal (k : Nat) (x : Str) (sp : Sp) : Prop :=
  ∃ (f : Addr) (fd : FuncData) (ps : List Str), FnOk P w K mg base CX k f fd ps sp ∧ mg x = some (.ref f) ∧ PySem.W.keepIn K (.ref f) = true ∧ Binds K fd ps []
/-- the class at C: its method m -/
def Met (k : Nat) (C : Addr) (m : Str) (sp : Sp) : Prop :=
  ∃ (f : Addr) (fd : FuncData) (ps : List Str), Cls K C ∧ Meth K C m f ∧ FnOk P w K mg base CX k f fd ps sp ∧ Binds K fd ps []
/-- a class that is made by its name; sp: its __init__ -/
def Mak (k : Nat) (x : Str) (C : Addr) (sp : Sp) : Prop :=
  ∃ (f : Addr) (fd : FuncData) (ps : List Str), Mk K C f ∧ FnOk P w K mg base CX k f fd ps sp ∧ mg x = some (.ref C) ∧ Binds K fd ps []
end
section
variable {P : Program} {w : World} {K : PySem.W.Frag} {mg : Str → Option Value} {base : Heap} {CX : CXT} {k : Nat} {x m : Str} {C : Addr} {sp : Sp}
theorem Cal.mono {j : Nat} (c : Cal P w K mg base CX j x sp) (h : j ≤ k) : Cal P w K mg base CX k x sp := let ⟨f, fd, ps, F, a, b, d⟩ := c; ⟨f, fd, ps, F.mono h, a, b, d⟩
theorem Met.mono {j : Nat} (c : Met P w K mg base CX j C m sp) (h : j ≤ k) : Met P w K mg base CX k C m sp := let ⟨f, fd, ps, a, b, F, d⟩ := c; ⟨f, fd, ps, a, b, F.mono h, d⟩
theorem Mak.mono {j : Nat} (c : Mak P w K mg base CX j x C sp) (h : j ≤ k) : Mak P w K mg base CX k x C sp := let ⟨f, fd, ps, a, F, b, d⟩ := c; ⟨f, fd, ps, a, F.mono h, b, d⟩
theorem Cal.imp {sp' : Sp} (c : Cal P w K mg base CX k x sp) (h : ∀ vs H Q E, sp' vs H Q E → sp vs H Q E) : Cal P w K mg base CX k x sp' := let ⟨f, fd, ps, F, a, b, d⟩ := c; ⟨f, fd, ps, F.imp h, a, b, d⟩
theorem Met.imp {sp' : Sp} (c : Met P w K mg base CX k C m sp) (h : ∀ vs H Q E, sp' vs H Q E → sp vs H Q E) : Met P w K mg base CX k C m sp' := let ⟨f, fd, ps, a, b, F, d⟩ := c; ⟨f, fd, ps, a, b, F.imp h, d⟩
/-- nothing leaves by an error: the body's form -/
def Body0 (P : Program) (w : World) (K : PySem.W.Frag) (mg : Str → Option Value) (base : Heap) (N : List Str) (qual : Str) (st : Stmt) (f : Addr) (k : Nat) (sp : Sp) : Prop :=
  ∀ (cdv : Value) (A : Around) (outer : List Env) (s : Shared) (H : Hp) (vs : List V) (Q : VK) (E : XK), Room k (A.deeper (envOfC qual (defScope st) s.heap.objs.size f cdv)) → sp vs H Q E →
    ∃ t, PSs (cxOf CX0 P w K mg base N qual (defScope st) f cdv A outer s H E).nox (defBody st) t ∧ t { nx := fun _ H' => Q .non H', rt := Q } (start N vs) H
theorem fn_0 {qual : Str} {st : Stmt} {f : Addr} {fd : FuncData} {N ps : List Str} (F : FunD K x qual (defArgs st) (defBody st) (defScope st) [] [] f fd) (S : FnScope N ps (defScope st))
    (len : ∀ vs H Q E, sp vs H Q E → vs.length = ps.length) (h : Body0 P w K mg base N qual st f k sp) : FnOk P w K mg base CX0 (k + 1) f fd ps sp :=
  F.ok S len fun cdv A outer s H vs Q E hr hsp => let ⟨t, a, b⟩ := h cdv A outer s H vs Q E hr hsp; ⟨t, a.nox, b⟩
theorem cal_0 {st : Stmt} {f : Addr} {N ps : List Str} (F : ∃ fd, FunD K x x (defArgs st) (defBody st) (defScope st) [] [] f fd) (hm : mg x = some (.ref f)) (S : FnScope N ps (defScope st))
    (hb : ∀ (kV doc pm : Value) (an : Option Addr) (cdv ct : Value) (us : List Value), us.length = ps.length → bindArgs (PySem.W.fnOf x x (defArgs st) (defBody st) (defScope st) .none kV doc pm an cdv ct) ⟨us, []⟩ = pure (ps.zip us))
    (len : ∀ vs H Q E, sp vs H Q E → vs.length = ps.length) (h : Body0 P w K mg base N x st f k sp) : Cal P w K mg base CX0 (k + 1) x sp :=
  let ⟨fd, F⟩ := F
  ⟨f, fd, ps, fn_0 F S len h, hm, F.kp, F.bindsN hb⟩
theorem cal_never {x : Str} {st : Stmt} {f : Addr} {ps : List Str} {sp : Sp} {k : Nat} (F : ∃ fd, FunD K x x (defArgs st) (defBody st) (defScope st) [] [] f fd) (hm : mg x = some (.ref f))
    (hb : ∀ (kV doc pm : Value) (an : Option Addr) (cdv ct : Value) (us : List Value), us.length = ps.length → bindArgs (PySem.W.fnOf x x (defArgs st) (defBody st) (defScope st) .none kV doc pm an cdv ct) ⟨us, []⟩ = pure (ps.zip us))
    (no : ∀ vs H Q E, ¬ sp vs H Q E) : Cal P w K mg base CX0 k x sp :=
  let ⟨fd, F⟩ := F
  ⟨f, fd, ps, ⟨fun vs H Q E h => absurd h (no vs H Q E), fun A outer s H args us vs Q E _ _ _ _ h => absurd h (no vs H Q E)⟩, hm, F.kp, F.bindsN hb⟩
theorem met_0 {qual : Str} {st : Stmt} {f : Addr} {N ps : List Str} (F : ∃ fd, FunD K m qual (defArgs st) (defBody st) (defScope st) [] [] f fd) (c : Cls K C) (me : Meth K C m f) (S : FnScope N ps (defScope st))
    (hb : ∀ (kV doc pm : Value) (an : Option Addr) (cdv ct : Value) (us : List Value), us.length = ps.length → bindArgs (PySem.W.fnOf m qual (defArgs st) (defBody st) (defScope st) .none kV doc pm an cdv ct) ⟨us, []⟩ = pure (ps.zip us))
    (len : ∀ vs H Q E, sp vs H Q E → vs.length = ps.length) (h : Body0 P w K mg base N qual st f k sp) : Met P w K mg base CX0 (k + 1) C m sp :=
  let ⟨fd, F⟩ := F
  ⟨f, fd, ps, c, me, fn_0 F S len h, F.bindsN hb⟩
theorem mak_0 {qual : Str} {st : Stmt} {f : Addr} {N ps : List Str} (F : ∃ fd, FunD K "__init__" qual (defArgs st) (defBody st) (defScope st) [] [] f fd) (M : Mk K C f) (hm : mg x = some (.ref C)) (S : FnScope N ps (defScope st))
    (hb : ∀ (kV doc pm : Value) (an : Option Addr) (cdv ct : Value) (us : List Value), us.length = ps.length → bindArgs (PySem.W.fnOf "__init__" qual (defArgs st) (defBody st) (defScope st) .none kV doc pm an cdv ct) ⟨us, []⟩ = pure (ps.zip us))
    (len : ∀ vs H Q E, sp vs H Q E → vs.length = ps.length) (h : Body0 P w K mg base N qual st f k sp) : Mak P w K mg base CX0 (k + 1) x C sp :=
  let ⟨fd, F⟩ := F
  ⟨f, fd, ps, M, fn_0 F S len h, hm, F.bindsN hb⟩
end
section
variable {X : Cx} {CX : CXT} {k j : Nat} {C : Addr} {x m : Str} {sp : Sp} {E : XK} {p pos apos : Pos} {e o : Expr} {es : List Expr} {ta : TE} {t : TA}
theorem pc (c : Cal X.prog X.w X.K X.mg X.base CX0 k x sp) (hr : Room j X.A) (ha : PA X (e :: es) t) (hk : k ≤ j := by omega) (hg : Gl X x := by rfl)
    (hpl : (backTo pos (starEach es X.env)).any (·.1) = false := by rfl) (he : starEach (e :: es) X.env = (false, eval e X.env) :: starEach es X.env := by rfl) (hdb : (x == ("__debug__" : Str)) = false := by decide) :
    PE X (.Call (.Name x p) (e :: es) [] pos) (tCall sp [] E0 t) := by
  obtain ⟨f, fd, ps, F, hm, kp, b⟩ := c
  exact pe_call F (hr.mono hk) hg hm kp b .nil pass0 ha hdb he hpl
theorem pc0 (c : Cal X.prog X.w X.K X.mg X.base CX0 k x sp) (hr : Room j X.A) (hk : k ≤ j := by omega) (hg : Gl X x := by rfl)
    (hdb : (x == ("__debug__" : Str)) = false := by decide) :
    PE X (.Call (.Name x p) [] [] pos) (tCall sp [] E0 tNil) := by
  obtain ⟨f, fd, ps, F, hm, kp, b⟩ := c
  exact pe_call0 F (hr.mono hk) hg hm kp b .nil pass0 hdb
theorem pmk (c : Mak X.prog X.w X.K X.mg X.base CX0 k x C sp) (hr : Room j X.A) (ha : PA X (e :: es) t) (hk : k + 1 ≤ j := by omega) (hg : Gl X x := by rfl)
    (hpl : (backTo pos (starEach es X.env)).any (·.1) = false := by rfl) (he : starEach (e :: es) X.env = (false, eval e X.env) :: starEach es X.env := by rfl) (hdb : (x == ("__debug__" : Str)) = false := by decide) :
    PE X (.Call (.Name x p) (e :: es) [] pos) (tMake C sp [] E0 t) := by
  obtain ⟨f, fd, ps, M, F, hm, b⟩ := c
  exact pe_make M F (hr.mono hk) hg hm b .nil pass0 ha hdb he hpl
theorem pmt {pl : Sem Bool} (c : Met X.prog X.w X.K X.mg X.base CX0 k C m sp) (hr : Room j X.A) (he : PE X o ta) (ha : PA X (e :: es) t) (hk : k ≤ j := by omega)
    (hst : starEach (e :: es) X.env = (false, eval e X.env) :: starEach es X.env := by rfl) (hpl : (backTo pos (starEach es X.env)).any (·.1) = false := by rfl)
    (ht : eval (.Call (.Attribute o m apos) (e :: es) [] pos) X.env = (do
      let ov ← eval o X.env
      standAt apos.atName
      let (f, first) ← holding [ov] (getMethod ov m pl)
      callWith pos f first (backTo pos (starEach (e :: es) X.env)) (backToKw pos (keywordEach [] X.env))) := by rfl) :
    PE X (.Call (.Attribute o m apos) (e :: es) [] pos) (tMeth C m sp [] E0 ta t) := by
  obtain ⟨f, fd, ps, hc, hm, F, b⟩ := c
  exact pe_meth (pl := pl) he hc hm F (hr.mono hk) b .nil pass0 ha hst hpl ht
theorem pmt0 {pl : Sem Bool} (c : Met X.prog X.w X.K X.mg X.base CX0 k C m sp) (hr : Room j X.A) (he : PE X o ta) (hk : k ≤ j := by omega)
    (ht : eval (.Call (.Attribute o m apos) [] [] pos) X.env = (do
      let ov ← eval o X.env
      standAt apos.atName
      let (f, first) ← holding [ov] (getMethod ov m pl)
      callWith pos f first (backTo pos (starEach [] X.env)) (backToKw pos (keywordEach [] X.env))) := by rfl) :
    PE X (.Call (.Attribute o m apos) [] [] pos) (tMeth C m sp [] E0 ta tNil) := by
  obtain ⟨f, fd, ps, hc, hm, F, b⟩ := c
  exact pe_meth0 (pl := pl) he hc hm F (hr.mono hk) b .nil pass0 ht
/-- a module's constant, told by what mg says -/
theorem pgl {v : V} {u : Value} (hm : X.mg x = some u) (r : RelV v u) (hg : Gl X x := by rfl) (hd : (x == ("__debug__" : Str)) = false := by decide) : PE X (.Name x p) (tC v) := pe_glob hg hm r hd
theorem pglR {a : Addr} (hm : X.mg x = some (.ref a)) (hg : Gl X x := by rfl) (hd : (x == ("__debug__" : Str)) = false := by decide) : PE X (.Name x p) (tC (.ref a)) := pe_glob hg hm rfl hd
theorem pglI {i : Int} (hm : ∃ t, X.mg x = some (.int i t)) (hg : Gl X x := by rfl) (hd : (x == ("__debug__" : Str)) = false := by decide) : PE X (.Name x p) (tC (.int i)) := let ⟨t, h⟩ := hm; pe_glob hg h ⟨t, rfl⟩ hd
theorem pglS {z : Str} (hm : ∃ t, X.mg x = some (.str z t)) (hg : Gl X x := by rfl) (hd : (x == ("__debug__" : Str)) = false := by decide) : PE X (.Name x p) (tC (.str z)) := let ⟨t, h⟩ := hm; pe_glob hg h ⟨t, rfl⟩ hd
/-- a built-in class as a value -/
theorem pty {n : String} (hm : X.mg x = none) (hv : bootBuiltins x = some (.type n)) (hg : Gl X x := by rfl) (hn : x ≠ "__name__" := by decide) (hd : (x == ("__debug__" : Str)) = false := by decide) : PE X (.Name x p) (tC (.ty n)) := pe_bltn hg hm hv rfl hn hd
/-- a built-in function, a built-in class, called -/
theorem pcb {id : String} {r : List V → Hp → VK → Prop} (hm : X.mg x = none) (hc : CallR X (.builtin id) r) (hv : bootBuiltins x = some (.builtin id)) (ha : PA X (e :: es) t) (hg : Gl X x := by rfl) (hn : x ≠ "__name__" := by decide) (hdb : (x == ("__debug__" : Str)) = false := by decide)
    (he : starEach (e :: es) X.env = (false, eval e X.env) :: starEach es X.env := by rfl) (hpl : (backTo pos (starEach es X.env)).any (·.1) = false := by rfl) : PE X (.Call (.Name x p) (e :: es) [] pos) (tCB r t) := pe_callB hc hg hm hv ha hn hdb he hpl
theorem pct {T : String} {r : List V → Hp → VK → Prop} (hm : X.mg x = none) (hc : CallR X (.type T) r) (hv : bootBuiltins x = some (.type T)) (ha : PA X (e :: es) t) (hg : Gl X x := by rfl) (hn : x ≠ "__name__" := by decide) (hdb : (x == ("__debug__" : Str)) = false := by decide)
    (he : starEach (e :: es) X.env = (false, eval e X.env) :: starEach es X.env := by rfl) (hpl : (backTo pos (starEach es X.env)).any (·.1) = false := by rfl) : PE X (.Call (.Name x p) (e :: es) [] pos) (tCB r t) := pe_callTy hc hg hm hv ha hn hdb he hpl
end
/-! ### the rules whose readings name the written part: K told apart (for a comprehension's block) -/
section
variable {X : Cx} {K : PySem.W.Frag} {e o : Expr} {es : List Expr} {ta : TE} {t : TA} {pos : Pos}
theorem pg_tup' {k : Nat} {t : TGs} {n : Nat} (hK : X.K = K) (hc : X.calm = true) (h : PGs X es t)
    (hn : (assignEach es X.env).length = n) (hst : (assignEach es X.env).findIdx? (·.1) = none) : PG X (.Tuple es k pos) (gTup K n t) := by
  subst hK
  exact pg_tup hc h hn hst
theorem ix_tup' (hK : X.K = K) : IxR X (rIxT K) := by subst hK; exact ix_tup
theorem ix_list' (hK : X.K = K) : IxR X (rIxL K) := by subst hK; exact ix_list
theorem call_isi' (hK : X.K = K) : CallR X (.builtin "isinstance") (rIsi K) := by subst hK; exact call_isi
theorem call_isiT' (hK : X.K = K) : CallR X (.builtin "isinstance") (rIsiT K) := by subst hK; exact call_isiT
theorem call_len_seq' (hK : X.K = K) : CallR X (.builtin "len") (fun xs H Q => ∃ p ys, xs = [.ref p] ∧ (SqL K H p ys ∨ SqT K H p ys) ∧ Q (.int ys.length) H) := by subst hK; exact call_len_seq
theorem ix_kdict' {w : World} (hK : X.K = K) (hw : X.w = w) : IxR X (rIxD K w) := by subst hK hw; exact ix_kdict
theorem pe_fld' {f : Str} (hK : X.K = K) (he : PE X e ta) (hb : attributeBase e f X.env (eval e X.env) = eval e X.env) : PE X (.Attribute e f pos) (tFld K ta f) := by subst hK; exact pe_fld he hb
end
/-! ### places -/
theorem at0 {v : V} {xs : List V} : atI (v :: xs) 0 = some v := atI_nat (j := 0) rfl
theorem at1 {a v : V} {xs : List V} : atI (a :: v :: xs) 1 = some v := atI_nat (j := 1) rfl
theorem at2 {a b v : V} {xs : List V} : atI (a :: b :: v :: xs) 2 = some v := atI_nat (j := 2) rfl
theorem at3 {a b c v : V} {xs : List V} : atI (a :: b :: c :: v :: xs) 3 = some v := atI_nat (j := 3) rfl
theorem at4 {a b c d v : V} {xs : List V} : atI (a :: b :: c :: d :: v :: xs) 4 = some v := atI_nat (j := 4) rfl
theorem yesI {σ : L2.St} {H : Hp} {X Y : Hp → Prop} (h : X H) : tYes σ H (fun b H3 => if b = true then X H3 else Y H3) := by
  show if true = true then X H else Y H
  rw [if_pos rfl]
  exact h
/-! ### ifs -/
theorem ifT {c : Bool} {A B : Prop} (hc : c = true) (h : A) : if c = true then A else B := by
  rw [if_pos hc]
  exact h
theorem ifF {c : Bool} {A B : Prop} (hc : c = false) (h : B) : if c = true then A else B := by
  rw [hc, if_neg Bool.false_ne_true]
  exact h
theorem qT {Q : VK} {c : Bool} {H : Hp} (h : c = true) (q : Q (.bl true) H) : Q (.bl c) H := by rw [h]; exact q
theorem qF {Q : VK} {c : Bool} {H : Hp} (h : c = false) (q : Q (.bl false) H) : Q (.bl c) H := by rw [h]; exact q
theorem ifB {c : Bool} {A B : Prop} (h1 : c = true → A) (h2 : c = false → B) : if c = true then A else B := by
  cases c with
  | true => exact ifT rfl (h1 rfl)
  | false => exact ifF rfl (h2 rfl)
/-! ### what a head tells beside the listed facts -/
/-- an own class whose instances isinstance reads -/
def insB (K : PySem.W.Frag) (x : Str) : Bool := He.eqO (PySem.W.findIn K (.ref (He.ga K x)) "__class__") (some (some (.builtin "object.__class__"))) &&
  (He.eqO (PySem.W.specialIn K (.builtin "object.__class__") "__get__") (some (some (.builtin "getset_descriptor.__get__"))) && (decide (PySem.W.takesIn K (.builtin "object.__class__") = some true) &&
    decide (PySem.W.mroIn K (He.ga K x) (.type "object") = some true)))
theorem insB_ty {K : PySem.W.Frag} {H : Hp} {x : Str} (h : insB K x = true) (cl : Cls K (He.ga K x)) {a dx : Addr} {fs : List (Str × V)} (e : H a = some (.ins (He.ga K x) dx fs)) : TyOf K H (.ref a) (.ref (He.ga K x)) := by
  obtain ⟨h1, h⟩ := He.ba h
  obtain ⟨h2, h⟩ := He.ba h
  obtain ⟨h3, h4⟩ := He.ba h
  exact .ins e cl (He.eqO_ok h1) (He.eqO_ok h2) (of_decide_eq_true h3) (of_decide_eq_true h4)
/-- isinstance between two own classes -/
def kitC (K : PySem.W.Frag) (x y : Str) (b : Bool) : Bool := decide (PySem.W.kitOne K (.ref (He.ga K x)) (.ref (He.ga K y)) = some b)
theorem kitC_ok {K : PySem.W.Frag} {x y : Str} {b : Bool} (h : kitC K x y b = true) : PySem.W.kitOne K (.ref (He.ga K x)) (.ref (He.ga K y)) = some b := of_decide_eq_true h
/-- a special method of an own class is its def -/
def spcB (K : PySem.W.Frag) (x m : Str) : Bool := He.eqO (PySem.W.findIn K (.ref (He.ga K x)) m) (some (some (.ref (He.ma K (He.ga K x) m)))) && PySem.W.isFn K (.ref (He.ma K (He.ga K x) m))
theorem spcB_ok {K : PySem.W.Frag} {x m : Str} (h : spcB K x m = true) : PySem.W.findIn K (.ref (He.ga K x)) m = some (some (.ref (He.ma K (He.ga K x) m))) ∧ PySem.W.isFn K (.ref (He.ma K (He.ga K x) m)) = true :=
  let ⟨a, b⟩ := He.ba h; ⟨He.eqO_ok a, b⟩
/-! ### isinstance -/
theorem isi_ty {K : PySem.W.Frag} {H : Hp} {Q : VK} {x : V} {t n : String} {b : Bool} (ty : TyX K H x (.type t)) (q : Q (.bl b) H) (e : kitB t n = some b := by decide +kernel) : rIsi K [x, .ty n] H Q :=
  ⟨x, .ty n, .type t, .type n, b, rfl, .ty n, ty, kit_ty e, q⟩
/-! ### a statement told by what holds behind it -/
def tMid (t : TS) : TS := fun D σ H => ∃ M : L2.St → Hp → Prop, t { D with nx := M } σ H ∧ ∀ σ' H', M σ' H' → D.nx σ' H'
theorem ps_mid {X : Cx} {st : Stmt} {t : TS} (h : PS X st t) : PS X st (tMid t) := by
  constructor
  rintro pins s σ H D I ⟨M, a, b⟩
  refine wpAny_mono (h.run pins s σ H _ I a) (fun f s' z => ?_) fun _ _ z => z
  cases f with
  | next =>
    obtain ⟨σ', H', I', m⟩ := z
    exact ⟨σ', H', I', b σ' H' m⟩
  | ret v => exact z
  | brk => exact z
  | cont => exact z
end RM

set_option Elab.async false
set_option linter.all false
/-! sequences of either kind: for x in v -/
namespace RM
open PySem PySem.Spec
open PyProof.Rows
open L2
/-- what is laid behind the last address is no one's -/
theorem late {X : Cx} {pins : List (Addr × Obj)} {σ : L2.St} {H : Hp} {s : Shared} (inv : Inv X pins σ H s) : ∀ b ∈ [s.heap.objs.size], FpOk X pins H b := by
  intro b hb
  obtain rfl := List.mem_singleton.mp hb
  exact inv.fpOk (Nat.le_refl _) (inv.hok.fresh (Nat.le_refl _))
@[irreducible] def SeqG (K : PySem.W.Frag) (x : V) (H1 : Hp) (R : It → Hp → Prop) : Prop :=
  ∃ a, x = .ref a ∧ ((∃ xs, SqL K H1 a xs ∧ R (Itl K a) H1) ∨ (∃ xs, SqT K H1 a xs ∧ R (Itt K a) H1))
def iSeqA (K : PySem.W.Frag) (tl : TE) : TI := fun σ H R => tl σ H fun x H1 => SeqG K x H1 R
theorem pi_seqA {X : Cx} {tg l : Expr} {tl : TE} (hl : PE X l tl) : PI X tg l (iSeqA X.K tl) := by
  constructor
  intro pins s σ H R inv pre
  refine thn (hl.run pins s σ H _ inv pre) ?_
  rintro v s1 ⟨x, H1, inv1, rel, post⟩
  rw [show SeqG X.K x H1 R = (∃ a, x = .ref a ∧ ((∃ xs, SqL X.K H1 a xs ∧ R (Itl X.K a) H1) ∨ (∃ xs, SqT X.K H1 a xs ∧ R (Itt X.K a) H1))) by unfold SeqG; rfl] at post
  obtain ⟨a, rfl, ⟨xs, sq, r⟩ | ⟨xs, sq, r⟩⟩ := post
  · obtain rfl : v = .ref a := rel
    obtain ⟨its, _, at_, _⟩ := inv1.list sq
    exact wpAny_pyIter_list at_.isList ⟨_, _, _, _, _, rfl, inv1.kept (t' := s1.toks) fun _ _ e => Heap.get?_push_of_some _ e, turn_list a _, ⟨_, Heap.get?_push_size _ rfl, rfl, rfl⟩, late inv1, r⟩
  · obtain rfl : v = .ref a := rel
    obtain ⟨its, _, at_, _⟩ := inv1.tuple sq
    exact wpAny_pyIter_tuple (items := its.toArray) at_ ⟨_, _, _, _, _, rfl, inv1.kept (t' := s1.toks) fun _ _ e => Heap.get?_push_of_some _ e, turn_tuple a _, ⟨_, Heap.get?_push_size _ rfl, rfl, rfl⟩, late inv1, r⟩
end RM

set_option Elab.async false
set_option linter.all false
set_option maxRecDepth 100000
/-! enumerate(a tuple): how it is made -/
namespace RM
open PySem PySem.Spec
open PyProof.Rows
open L2
abbrev tupIt (a : Addr) : Obj := { cls := .type "tuple_iterator", data := .fields #[.ref a, .int 0 0] }
abbrev enOb (e : Addr) : Obj := { cls := .type "enumerate", data := .fields #[.none, .bool false, .ref e, rawInt 0, .none, .none] }
theorem made_enum (a : Addr) (its : Array Value) : Meets (Builtin.«enumerate.__new__» ⟨[.type "enumerate", .ref a], []⟩)
    fun _ R s => s.heap.IsTuple a its ∧ R (.ok (.ret (.ref (s.heap.push (tupIt a)).objs.size))) { s with heap := (s.heap.push (tupIt a)).push (enOb s.heap.objs.size) } := by
  refine .of_wp ?_
  rintro prog w A R ⟨hp, g, d, tk, os⟩ ⟨tup, fin⟩
  have sub := sub_enumerate
  have go : ∀ {B : Around} {EE QQ : Value → Shared → Prop}, QQ (.ref hp.objs.size) ⟨hp.push (tupIt a), g, d, tk, os⟩ → wpAny (model prog w) B (pyIter (.ref a)) QQ EE ⟨hp, g, d, tk, os⟩ :=
    wpAny_pyIter_tuple (s := ⟨hp, g, d, tk, os⟩) tup
  wp_walk using go
  refine wpAny_stack_any fun frames => ?_
  apply wpAny_pure
  split
  case h_1 c _ _ _ _ _ =>
    by_cases e : (c == Value.type "enumerate") = true
    all_goals (simp only [e]; wp_walk using go; exact ⟨_, rfl, fin⟩)
  case h_2 => wp_walk using go; exact ⟨_, rfl, fin⟩
section
variable {P : Program} {w : World} {s : Shared} {A : Around} {E : Value → Shared → Prop}
/-- enumerate(t): the enumerate object stands one behind the tuple's iterator -/
theorem call_enumT {a : Addr} {its : Array Value} {Q : Value → Shared → Prop} (tup : s.heap.IsTuple a its)
    (then_ : ∀ hp : Heap, IsEnum hp (s.heap.objs.size + 1) s.heap.objs.size ((0 : Nat) : Int) .none → hp.get? s.heap.objs.size = some (tupIt a) → (∀ c u, s.heap.get? c = some u → hp.get? c = some u) → Q (.ref (s.heap.objs.size + 1)) { s with heap := hp }) :
    wpAny (model P w) A (call (.type "enumerate") [.ref a]) Q E s := by
  have sz : (s.heap.push (tupIt a)).objs.size = s.heap.objs.size + 1 := Heap.size_push _ _
  have at1 : ((s.heap.push (tupIt a)).push (enOb s.heap.objs.size)).get? (s.heap.objs.size + 1) = some (enOb s.heap.objs.size) := sz ▸ Heap.get?_push_size (s.heap.push (tupIt a)) (o := enOb s.heap.objs.size) rfl
  apply callType_new F.called_enumerate (by decide) (F.typeCall_enumerate_1 (.ref a)) (F.newCall_enumerate_1 (.ref a)) (fun o => F.args_object_init_2 o (.ref a)) F.entry_enumerate_new (made_enum a its)
  refine ⟨tup, ?_⟩
  show Shared.TypeIs _ _ _ ∧ Q _ _
  rw [sz]
  exact ⟨⟨_, at1, rfl⟩, then_ _ at1 (Heap.get?_push_of_some _ (Heap.get?_push_size _ rfl)) fun c u old => Heap.get?_push_of_some _ (Heap.get?_push_of_some _ old)⟩
end
theorem turn_pair {P : Program} {w : World} {K : PySem.W.Frag} {elts : List Expr} {kk : Nat} {tpos : Pos} {J : It} {fp : List Addr} {it : Addr} {tn : Nat → Heap → Prop}
    (mem : it ∈ fp) (obj : ∀ i h, tn i h → ∀ b ∈ fp, ∃ o, h.get? b = some o ∧ ∀ v, o.data ≠ .cell v)
    (keep : ∀ i h h', tn i h → (∀ b ∈ fp, ∀ o, h.get? b = some o → h'.get? b = some o) → tn i h')
    (self : ∀ (A : Around) (i : Nat) (s : Shared) (Q : Value → Shared → Prop) (E : Value → Shared → Prop), tn i s.heap → Q (.ref it) s → wpAny (model P w) A (pyIter (.ref it)) Q E s)
    (go : ∀ (X : Cx), X.prog = P → X.w = w → X.K = K → ∀ (i : Nat) (pins : List (Addr × Obj)) (s : Shared) (σ : L2.St) (H : Hp), Inv X pins σ H s → X.A.handled = none → tn i s.heap → J.go i H →
      ∃ (fp' wr : List Addr) (n : Nat) (Y : Nat → Heap → Value → Heap → Prop) (St : Nat → Heap → Prop), GoesN P w X.A (.Tuple elts kk tpos) it fp' wr n Y St ∧ i < n ∧ St i s.heap ∧ (∀ b ∈ wr, b ∈ fp) ∧
        ∀ v h', Y i s.heap v h' → St (i + 1) h' → ∃ T u1 u2 x y, v = .ref T ∧ s.heap.objs.size ≤ T ∧ h'.IsTuple T #[u1, u2] ∧ RelV x u1 ∧ RelV y u2 ∧ tn (i + 1) h' ∧ J.yld i H (.ref T) (upd H T (.tup [x, y])))
    (stop : ∀ (X : Cx), X.prog = P → X.w = w → X.K = K → ∀ (i : Nat) (pins : List (Addr × Obj)) (s : Shared) (σ : L2.St) (H : Hp), Inv X pins σ H s → X.A.handled = none → tn i s.heap → J.stop i H →
      ∃ (fp' wr : List Addr) (Y : Nat → Heap → Value → Heap → Prop) (St : Nat → Heap → Prop), GoesN P w X.A (.Tuple elts kk tpos) it fp' wr i Y St ∧ St i s.heap ∧ (∀ b ∈ wr, b ∈ fp)) :
    Turn P w K (.Tuple elts kk tpos) J fp it tn where
  mem := mem
  obj := obj
  keep := keep
  item := by
    rintro X hP hw hK hc i pins s σ H E I hf st hg
    obtain ⟨fp', wr, n, Y, St, W, hi, hs, hwr, hy⟩ := go X hP hw hK i pins s σ H I (I.ok.hd hc) st hg
    refine wpAny_mono (W.goes i s (fun v s2 => ∃ x H', Inv X pins σ H' s2 ∧ RelV x v ∧ J.yld i H x H' ∧ tn (i + 1) s2.heap ∧ ∀ b ∈ fp, H' b = none) E hi hs fun v h' tk y st' hk htk => ?_) (fun r s1 q => q) fun _ _ q => q
    obtain ⟨T, u1, u2, x, y', rfl, hT, ht, r1, r2, t', yl⟩ := hy v h' y st'
    have hd : s.heap.objs.size ≤ T := hT
    have new : ObjOk X.prog X.w (upd H T (.tup [x, y'])) h' T (.tup [x, y']) := ⟨by show 2 ≤ sizeLine; decide, [u1, u2], .cons r1 (.cons r2 .nil), ht⟩
    have I1 : Inv X pins σ (upd H T (.tup [x, y'])) { s with heap := h', toks := tk } := I.turnedNew (ch := fp) (fun c o hb q => hk c o (fun z => hb (hwr c z)) q) hf hT new
    refine ⟨.ref T, _, I1, rfl, yl, t', fun b hb => ?_⟩
    obtain ⟨o, ho, _⟩ := obj i _ st b hb
    rw [upd_ne (Nat.ne_of_lt (Nat.lt_of_lt_of_le (Heap.lt_size ho) hT))]
    exact (hf b hb).1
  done := by
    rintro X hP hw hK hc i pins s σ H E I hf st hg
    obtain ⟨fp', wr, Y, St, W, hs, hwr⟩ := stop X hP hw hK i pins s σ H I (I.ok.hd hc) st hg
    exact W.stops s (fun s1 => Inv X pins σ H s1) E hs fun h' tk hk htk => I.turnedL (ch := fp) (fun c o hb q => hk c o (fun z => hb (hwr c z)) q) hf
  self := self

/-! ### for i, x in enumerate(a tuple) -/
/-- the tuple at a, its items in new pairs behind their numbers -/
def IteT (K : PySem.W.Frag) (a : Addr) : It :=
  ⟨fun i H => ∃ (xs : List V) (x : V), SqT K H a xs ∧ xs[i]? = some x,
    fun i H v H' => ∃ T x, v = .ref T ∧ H T = none ∧ H' = upd H T (.tup [.int (i : Nat), x]) ∧ ∀ xs, SqT K H a xs → xs[i]? = some x,
    fun i H => ∃ xs : List V, SqT K H a xs ∧ xs.length = i⟩
theorem turn_enumT {P : Program} {w : World} {K : PySem.W.Frag} {elts : List Expr} {kk : Nat} {tpos : Pos} {a e it : Addr} (hei : e ≠ it) (hae : a ≠ e) (hai : a ≠ it) :
    Turn P w K (.Tuple elts kk tpos) (IteT K a) [e, it] e (fun i h => (∃ old, IsEnum h e it ((i : Nat) : Int) old) ∧ h.IsTupleIter it a i) := by
  refine turn_pair (by simp) (fun i h st b hb => ?_) (fun i h h' st k => ?_) (fun A i s Q E st h => let ⟨⟨_, he⟩, _⟩ := st; wpAny_pyIter_enum he h) ?_ ?_
  · obtain ⟨⟨old, he⟩, ⟨o2, e2, _, d2⟩⟩ := st
    rcases List.mem_cons.mp hb with rfl | rest
    · exact ⟨_, he, fun v => nofun⟩
    · obtain rfl : b = it := by simpa using rest
      exact ⟨o2, e2, fun v no => by simp [d2] at no⟩
  · obtain ⟨⟨old, he⟩, h2⟩ := st
    exact ⟨⟨old, k e (by simp) _ he⟩, h2.at fun o q => k it (by simp) o q⟩
  · rintro X rfl rfl rfl i pins s σ H I hh ⟨he, hit⟩ ⟨xs, x, hq, hx⟩
    obtain ⟨its, rv, p, _⟩ := I.tuple hq
    obtain ⟨u, hu, ru⟩ := Vals.get (xs := xs) rv hx
    have pt : s.heap.IsTuple a its.toArray := p
    have W := GoesN.enumFrom (prog := X.prog) (w := X.w) (A := X.A) (elts := elts) (x1 := kk) (pos := tpos) 0 (Draws.tuple (prog := X.prog) (w := X.w) (A := X.A.in1) hh it a hai its.toArray) e hei (by simp [hei, Ne.symm hae]) (by simp)
    refine ⟨_, _, _, _, _, W, ?_, ⟨?_, hit, pt⟩, by simp, ?_⟩
    · have : i < its.length := (List.getElem?_eq_some_iff.mp hu).1
      simpa using this
    · obtain ⟨old, he⟩ := he
      exact ⟨old, by simpa using he⟩
    · rintro v h' ⟨T, t, x', rfl, hT, hx', ht⟩ ⟨⟨old, he'⟩, hit', _⟩
      have hx2 : its[i]? = some x' := by simpa using hx'
      rw [hu] at hx2
      cases hx2
      refine ⟨T, _, _, .int (i : Nat), x, rfl, hT, ht, ⟨t, by simp⟩, ru, ⟨⟨old, by simpa using he'⟩, hit'⟩, T, x, rfl, I.hok.fresh hT, rfl, fun l hl => ?_⟩
      rw [I.tuple_inj hl hq]
      exact hx
  · rintro X rfl rfl rfl i pins s σ H I hh ⟨he, hit⟩ ⟨xs, hq, hx⟩
    obtain ⟨its, rv, p, _⟩ := I.tuple hq
    have pt : s.heap.IsTuple a its.toArray := p
    have W := GoesN.enumFrom (prog := X.prog) (w := X.w) (A := X.A) (elts := elts) (x1 := kk) (pos := tpos) 0 (Draws.tuple (prog := X.prog) (w := X.w) (A := X.A.in1) hh it a hai its.toArray) e hei (by simp [hei, Ne.symm hae]) (by simp)
    have hl : its.toArray.size = i := by
      have q := rv.length
      simp only [List.size_toArray]
      omega
    rw [hl] at W
    refine ⟨_, _, _, _, W, ⟨?_, hit, pt⟩, by simp⟩
    obtain ⟨old, he⟩ := he
    exact ⟨old, by simpa using he⟩
theorem walk_enumT {K : PySem.W.Frag} {a : Addr} {xs : List V} : Walk (IteT K a) xs.length (fun H => SqT K H a xs) (YPair (fun i => some (.int (i : Nat))) (fun i => xs[i]?)) where
  goes := fun i H hi h => ⟨xs, xs[i], h, by simp [hi]⟩
  stops := fun H h => ⟨xs, h, rfl⟩
  yields := fun i H x H' hi h ⟨T, y, e1, e2, e3, e4⟩ => ⟨T, _, y, e1, e2, e3, rfl, e4 xs h⟩
/-- enumerate(v): v a list or a tuple -/
@[irreducible] def EnumG (K : PySem.W.Frag) (vs : List V) (H1 : Hp) (R : It → Hp → Prop) : Prop :=
  ∃ a, vs = [.ref a] ∧ ((∃ xs, SqL K H1 a xs ∧ R (Ite K a) H1) ∨ (∃ xs, SqT K H1 a xs ∧ R (IteT K a) H1))
def iEnumA (K : PySem.W.Frag) (ta : TA) : TI := fun σ H R => ta σ H fun vs H1 => EnumG K vs H1 R
theorem late2 {X : Cx} {pins : List (Addr × Obj)} {σ : L2.St} {H : Hp} {s : Shared} (inv : Inv X pins σ H s) : ∀ b ∈ [s.heap.objs.size + 1, s.heap.objs.size], FpOk X pins H b := by
  intro b hb
  have above : s.heap.objs.size ≤ b := by
    have : b = s.heap.objs.size + 1 ∨ b = s.heap.objs.size := by simpa using hb
    omega
  exact inv.fpOk above (inv.hok.fresh above)
theorem pi_enumA {X : Cx} {e : Expr} {ta : TA} {p pos tpos : Pos} {elts : List Expr} {kk : Nat} (hg : Gl X "enumerate") (hm : X.mg "enumerate" = none) (ha : PA X [e] ta) (hs : starEach [e] X.env = [(false, eval e X.env)] := by rfl) :
    PI X (.Tuple elts kk tpos) (.Call (.Name "enumerate" p) [e] [] pos) (iEnumA X.K ta) := by
  constructor
  intro pins s σ H R inv pre
  refine Call_ (ld_blt inv hg hm boot_enumerate (PyProof.Rows.callWith_type1 (thn (ha.run pos pins s σ H _ inv pre) ?_) hs rfl))
  rintro us s1 ⟨vs, H1, inv1, rel, post⟩
  rw [show EnumG X.K vs H1 R = (∃ a, vs = [.ref a] ∧ ((∃ xs, SqL X.K H1 a xs ∧ R (Ite X.K a) H1) ∨ (∃ xs, SqT X.K H1 a xs ∧ R (IteT X.K a) H1))) by unfold EnumG; rfl] at post
  obtain ⟨a, rfl, ⟨xs, sq, r⟩ | ⟨xs, sq, r⟩⟩ := post
  · obtain rfl := Vals.ref1 rel
    obtain ⟨its, _, at_, _⟩ := inv1.list sq
    exact call_enumerate_list at_.isList fun hp en li _ old => wpAny_pyIter_enum en ⟨_, _, _, _, H1, rfl, inv1.kept (t' := s1.toks) old, turn_enum a (s1.heap.objs.size + 1) s1.heap.objs.size, ⟨⟨.none, en⟩, li, Nat.succ_ne_self _⟩, late2 inv1, r⟩
  · obtain rfl := Vals.ref1 rel
    obtain ⟨its, _, at_, _⟩ := inv1.tuple sq
    have low : a < s1.heap.objs.size := at_.lt
    exact call_enumT (its := its.toArray) at_ fun hp en it_ old => wpAny_pyIter_enum en ⟨_, _, _, _, H1, rfl, inv1.kept (t' := s1.toks) old, turn_enumT (Nat.succ_ne_self _) (Nat.ne_of_lt (Nat.lt_succ_of_lt low)) (Nat.ne_of_lt low), ⟨⟨.none, en⟩, ⟨_, it_, rfl, rfl⟩⟩, late2 inv1, r⟩
end RM

set_option Elab.async false
set_option linter.all false
set_option maxRecDepth 100000
/-! zip(a tuple, a text) -/
namespace RM
open PySem PySem.Spec
open PyProof.Rows
open L2
def ItzTS (K : PySem.W.Frag) (a : Addr) (z : Str) : It :=
  ⟨fun i H => ∃ (xs : List V) (x : V) (c : Nat), SqT K H a xs ∧ xs[i]? = some x ∧ z.cps[i]? = some c,
    fun i H v H' => ∃ T x c, v = .ref T ∧ H T = none ∧ H' = upd H T (.tup [x, .str ⟨#[c]⟩]) ∧ (∀ xs, SqT K H a xs → xs[i]? = some x) ∧ z.cps[i]? = some c,
    fun i H => ∃ xs : List V, SqT K H a xs ∧ min xs.length z.cps.size = i⟩
theorem turn_zipTS {P : Program} {w : World} {K : PySem.W.Frag} {elts : List Expr} {kk : Nat} {tpos : Pos} {a z TI TO i1 i2 : Addr} {x : Str} {tx : Tok} (S : ZipSep2 z TI TO i1 i2 [i1, a] [i2]) (hai : a ≠ i1) :
    Turn P w K (.Tuple elts kk tpos) (ItzTS K a x) [z, TI, TO, i1, i2] z (fun i h => IsZip h z TI TO .none ∧ IsTupOf2 h TI (.ref i1) (.ref i2) ∧ (∃ a1 a2, IsTupOf2 h TO a1 a2) ∧ h.IsTupleIter i1 a i ∧ h.IsStrIter i2 (strIterType x) x tx i) := by
  refine turn_pair (by simp) (fun i h st b hb => ?_) (fun i h h' st k => ?_) (fun A i s Q E st h => wpAny_pyIter_zip st.1 h) ?_ ?_
  · obtain ⟨zi, ti, ⟨_, _, to_⟩, ⟨o1, e1, _, d1⟩, ⟨o2, e2, _, d2⟩⟩ := st
    simp only [List.mem_cons, List.not_mem_nil, or_false] at hb ⊢
    have fl : ∀ {o : Obj} {vs : Array Value}, o.data = .fields vs → ∀ v, o.data ≠ .cell v := fun d v no => by simp [d] at no
    obtain rfl | rfl | rfl | rfl | rfl := hb
    · exact ⟨_, zi, fun v => nofun⟩
    · exact ⟨_, ti, fun v => nofun⟩
    · exact ⟨_, to_, fun v => nofun⟩
    · exact ⟨o1, e1, fl d1⟩
    · exact ⟨o2, e2, fl d2⟩
  · obtain ⟨hz, hTI, ⟨a1, a2, hTO⟩, h1, h2⟩ := st
    exact ⟨k z (by simp) _ hz, k TI (by simp) _ hTI, ⟨a1, a2, k TO (by simp) _ hTO⟩, h1.at fun o q => k i1 (by simp) o q, let ⟨o, ho, r⟩ := h2; ⟨o, k i2 (by simp) o ho, r⟩⟩
  · rintro X rfl rfl rfl i pins s σ H I hh ⟨hz, hTI, hTO, h1, h2⟩ ⟨xs, y, c, hq, hx, hc⟩
    obtain ⟨its, rv, p, _⟩ := I.tuple hq
    obtain ⟨u, hu, ru⟩ := Vals.get (xs := xs) rv hx
    have pt : s.heap.IsTuple a its.toArray := p
    have W := GoesN.zip2 (prog := X.prog) (w := X.w) (A := X.A) (elts := elts) (x1 := kk) (pos := tpos) S (Draws.tuple (prog := X.prog) (w := X.w) (A := X.A.in1) hh i1 a hai its.toArray) (Draws.text (prog := X.prog) (w := X.w) (A := X.A.in1) hh i2 x tx)
    refine ⟨_, _, _, _, _, W, ?_, ⟨hz, hTI, hTO, ⟨h1, pt⟩, h2⟩, by simp, ?_⟩
    · have l1 : i < its.length := (List.getElem?_eq_some_iff.mp hu).1
      have l2 : i < x.cps.size := (Array.getElem?_eq_some_iff.mp hc).1
      simp only [List.size_toArray]
      omega
    · rintro v h' ⟨T, x', y', rfl, hT, hx', ⟨c', t', hc', rfl⟩, ht⟩ ⟨hz', hTI', hTO', ⟨h1', _⟩, h2'⟩
      have hx2 : its[i]? = some x' := by simpa using hx'
      rw [hu] at hx2
      cases hx2
      rw [hc] at hc'
      cases hc'
      refine ⟨T, _, _, y, .str ⟨#[c]⟩, rfl, hT, ht, ru, ⟨t', rfl⟩, ⟨hz', hTI', hTO', h1', h2'⟩, T, y, c, rfl, I.hok.fresh hT, rfl, fun l hl => ?_, hc⟩
      rw [I.tuple_inj hl hq]
      exact hx
  · rintro X rfl rfl rfl i pins s σ H I hh ⟨hz, hTI, hTO, h1, h2⟩ ⟨xs, hq, hl⟩
    obtain ⟨its, rv, p, _⟩ := I.tuple hq
    have pt : s.heap.IsTuple a its.toArray := p
    have W := GoesN.zip2 (prog := X.prog) (w := X.w) (A := X.A) (elts := elts) (x1 := kk) (pos := tpos) S (Draws.tuple (prog := X.prog) (w := X.w) (A := X.A.in1) hh i1 a hai its.toArray) (Draws.text (prog := X.prog) (w := X.w) (A := X.A.in1) hh i2 x tx)
    have hl2 : min its.toArray.size x.cps.size = i := by
      have q := rv.length
      simp only [List.size_toArray]
      omega
    rw [hl2] at W
    exact ⟨_, _, _, _, W, ⟨hz, hTI, hTO, ⟨h1, pt⟩, h2⟩, by simp⟩
def iZipTS (K : PySem.W.Frag) (ta : TA) : TI := fun σ H R => ta σ H fun vs H1 => ∃ a xs z, vs = [.ref a, .str z] ∧ SqT K H1 a xs ∧ R (ItzTS K a z) H1
theorem late5 {X : Cx} {pins : List (Addr × Obj)} {σ : L2.St} {H : Hp} {s : Shared} (inv : Inv X pins σ H s) :
    ∀ b ∈ [s.heap.objs.size + 4, s.heap.objs.size + 2, s.heap.objs.size + 3, s.heap.objs.size, s.heap.objs.size + 1], FpOk X pins H b := by
  intro b hb
  have above : s.heap.objs.size ≤ b := by
    have : b = s.heap.objs.size + 4 ∨ b = s.heap.objs.size + 2 ∨ b = s.heap.objs.size + 3 ∨ b = s.heap.objs.size ∨ b = s.heap.objs.size + 1 := by
      simpa using hb
    omega
  exact inv.fpOk above (inv.hok.fresh above)
theorem pi_zipTS {X : Cx} {e e2 : Expr} {ta : TA} {p pos tpos : Pos} {elts : List Expr} {kk : Nat} (hg : Gl X "zip") (hm : X.mg "zip" = none) (ha : PA X [e, e2] ta)
    (two : starEach [e, e2] X.env = (false, eval e X.env) :: starEach [e2] X.env := by rfl)
    (plain : (backTo pos (starEach [e2] X.env)).any (·.1) = false := by rfl) : PI X (.Tuple elts kk tpos) (.Call (.Name "zip" p) [e, e2] [] pos) (iZipTS X.K ta) := by
  constructor
  intro pins s σ H R inv pre
  refine Call_ (ld_blt inv hg hm PyProof.Rows.boot_zip (PyProof.Rows.callWith_type1 (thn (ha.run pos pins s σ H _ inv pre) ?_) two plain))
  rintro us s1 ⟨_, H1, inv1, rel, a, xs, z, rfl, sq, r⟩
  obtain ⟨_, u, rfl, rfl, ⟨tx, rfl⟩⟩ := vals2 rel
  obtain ⟨its, _, at_, _⟩ := inv1.tuple sq
  have low : a < s1.heap.objs.size := at_.lt
  have sep := zip_sep2 (N := s1.heap.objs.size) (fp1 := [a]) (fp2 := []) (fun b hb => (List.mem_singleton.mp hb).symm ▸ low) nofun
  exact zip_begins2 (begins_tuple a its.toArray) (begins_text z tx) at_ trivial fun hp zi ti to_ i1 i2 _ old =>
    wpAny_pyIter_zip zi ⟨_, _, _, _, H1, rfl, inv1.kept (t' := s1.toks) old, turn_zipTS sep (Nat.ne_of_lt low), ⟨zi, ti, ⟨_, _, to_⟩, ⟨_, i1, rfl, rfl⟩, ⟨_, i2, rfl, rfl⟩⟩, late5 inv1, r⟩
theorem walk_zipTS {K : PySem.W.Frag} {a : Addr} {xs : List V} {z : Str} (hl : xs.length = z.cps.size) : Walk (ItzTS K a z) xs.length (fun H => SqT K H a xs) (YPair (fun i => xs[i]?) (fun i => (z.cps[i]?).map fun c => .str ⟨#[c]⟩)) where
  goes := fun i H hi h => ⟨xs, xs[i], z.cps[i]'(by omega), h, by simp [hi], by simp⟩
  stops := fun H h => ⟨xs, h, by omega⟩
  yields := fun i H x H' hi h ⟨T, y, c, e1, e2, e3, e4, e5⟩ => ⟨T, y, _, e1, e2, e3, e4 xs h, by show Option.map _ z.cps[i]? = _; rw [e5]; rfl⟩
end RM

set_option Elab.async false
set_option linter.all false
set_option maxRecDepth 100000
set_option maxHeartbeats 2000000
/-! heaps that keep; sequences of either kind -/
namespace RM
open PySem PySem.Spec
open PyProof.Rows
open L2
/-- a clause's turns: at the end `fin`; else one more, behind whose tests `wk` is done -/
def Turns (J : It) (g : TG) (tt : TT) (wk : L2.St → Hp → (Hp → Prop) → Prop) (σ0 : L2.St) (vs : List Nat) (W : Nat → Nat → Hp → Prop) (fin : Hp → Prop) : Prop :=
  ∀ i m H, W i m H → (J.stop i H ∧ fin H) ∨ (J.go i H ∧ ∃ N : Hp → Prop, (∀ H', N H' → ∃ m', m' < m ∧ W (i + 1) m' H') ∧
    ∀ x H', J.yld i H x H' → g x σ0 H' fun σ2 H2 => wipe σ2 vs = σ0 ∧ tt σ2 H2 fun b H3 => if b = true then wk σ2 H3 N else N H3)
theorem smT {K : PySem.W.Frag} {H H' : Hp} {a : Addr} {xs : List V} (e : Same H H') (h : SqT K H a xs) : SqT K H' a xs := by
  exact h.imp (Or.imp (e _ _) fun ⟨o, at_⟩ => ⟨o, e _ _ at_⟩) id
theorem smNew {H H1 : Hp} (e : Same H H1) {p : Addr} (h : H1 p = none) (o : HO) : Same H (upd H1 p o) := fun b u q => by rw [upd_ne (ne_of_none (e b u q) h)]; exact e b u q
theorem smNew1 {H : Hp} {p : Addr} (h : H p = none) (o : HO) : Same H (upd H p o) := smNew (Same.refl H) h o
/-- p is none of H's -/
theorem smOut {H H1 : Hp} (e : Same H H1) {p : Addr} (h : H p = none) (o : HO) : Same H (upd H1 p o) := fun b u q => by rw [upd_ne (ne_of_none q h)]; exact e b u q
/-- the tuples stay -/
def TS (K : PySem.W.Frag) (H H' : Hp) : Prop := ∀ a xs, SqT K H a xs → SqT K H' a xs
theorem TS.refl (K : PySem.W.Frag) (H : Hp) : TS K H H := fun _ _ h => h
theorem TS.trans {K : PySem.W.Frag} {H H1 H2 : Hp} (a : TS K H H1) (b : TS K H1 H2) : TS K H H2 := fun p xs h => b p xs (a p xs h)
theorem ts_sm {K : PySem.W.Frag} {H H' : Hp} (e : Same H H') : TS K H H' := fun _ _ h => smT e h
/-- what no tuple is may change -/
def NoTup : HO → Prop
  | .tup _ => False
  | .frz _ _ => False
  | _ => True
theorem ts_upd {K : PySem.W.Frag} {H : Hp} {p : Addr} {u : HO} (o : HO) (h : H p = some u) (n : NoTup u) : TS K H (upd H p o) := fun a xs q => by
  rcases q with (q | ⟨ob, q⟩) | q
  · exact .inl (.inl (by rw [upd_ne (fun z => by rw [z, h] at q; cases q; exact n)]; exact q))
  · exact .inl (.inr ⟨ob, by rw [upd_ne (fun z => by rw [z, h] at q; cases q; exact n)]; exact q⟩)
  · exact .inr q
/-! ### walks of pairs: what the library's Goes.. give, as a Turn -/
/-- a sequence to be read: a list or a tuple -/
def SqA (K : PySem.W.Frag) (H : Hp) (a : Addr) (xs : List V) : Prop := SqL K H a xs ∨ SqT K H a xs
theorem sqA_sm {K : PySem.W.Frag} {H H' : Hp} {a : Addr} {xs : List V} (e : Same H H') (h : SqA K H a xs) : SqA K H' a xs := by
  rcases h with h | h
  · exact .inl (e.seq h)
  · exact .inr (smT e h)
theorem seqA_of {K : PySem.W.Frag} {H0 H : Hp} {a : Addr} {xs : List V} {R : It → Hp → Prop} (h : SqA K H0 a xs) (e : Same H0 H) (q : ∀ J, Walk J xs.length (fun H' => Same H0 H') (YAt xs) → R J H) :
    SeqG K (.ref a) H R := by
  unfold SeqG
  rcases h with h | h
  · exact ⟨a, rfl, .inl ⟨xs, e.seq h, q _ (walk_list.mono (fun H' e => e.seq h) fun i H x H' _ _ y => y)⟩⟩
  · exact ⟨a, rfl, .inr ⟨xs, smT e h, q _ (walk_tup.mono (fun H' e => smT e h) fun i H x H' _ _ y => y)⟩⟩
theorem enumA_of {K : PySem.W.Frag} {H0 H : Hp} {a : Addr} {xs : List V} {R : It → Hp → Prop} (h : SqA K H0 a xs) (e : Same H0 H) (q : ∀ J, Walk J xs.length (fun H' => Same H0 H') (YPair (fun i => some (.int (i : Nat))) (fun i => xs[i]?)) → R J H) :
    EnumG K [.ref a] H R := by
  unfold EnumG
  rcases h with h | h
  · exact ⟨a, rfl, .inl ⟨xs, e.seq h, q _ (walk_enum.mono (fun H' e => e.seq h) fun i H x H' _ _ y => y)⟩⟩
  · exact ⟨a, rfl, .inr ⟨xs, smT e h, q _ (walk_enumT.mono (fun H' e => smT e h) fun i H x H' _ _ y => y)⟩⟩
/-- t + u -/
@[irreducible] def CatG (K : PySem.W.Frag) : R2 := rCatA K
theorem op_catG {X : Cx} : OpR X (binaryOp .Add) (CatG X.K) := by
  unfold CatG
  exact op_catA
theorem op_catG' {X : Cx} {K : PySem.W.Frag} (hK : X.K = K) : OpR X (binaryOp .Add) (CatG K) := by
  subst hK
  exact op_catG
theorem catA_of {K : PySem.W.Frag} {H : Hp} {a b : Addr} {xs ys : List V} {Q : VK} (ha : SqT K H a xs) (hb : SqT K H b ys) (hl : xs.length + ys.length ≤ sizeLine)
    (q : ∀ t H', Same H H' → SqT K H' t (xs ++ ys) → Q (.ref t) H') : CatG K (.ref a) (.ref b) H Q := by
  unfold CatG
  refine ⟨a, b, xs, ys, rfl, rfl, ha, hb, hl, ?_, ?_, ?_⟩
  · intro e
    subst e
    exact q b H (Same.refl H) (by simpa using hb)
  · intro _ e
    subst e
    exact q a H (Same.refl H) (by simpa using ha)
  · intro _ _ p hp
    exact q p _ (smNew1 hp _) (SqT.of upd_same)
end RM

set_option Elab.async false
set_option linter.all false
set_option maxRecDepth 100000
set_option maxHeartbeats 2000000
namespace RM
open PySem PySem.Spec PyProof.Rows L2
/-! ### data in the heap -/
section
variable {K : PySem.W.Frag} {H H' : Hp}
mutual
theorem Dp.keep (e : Same H H') : ∀ {v : V} {d : PyData}, Dp K H v d → Dp K H' v d
  | _, _, .non => .non
  | _, _, .bl b => .bl b
  | _, _, .int i => .int i
  | _, _, .str x => .str x
  | _, _, .lst h r => .lst (e.seq h) (DpAll.keep e r)
  | _, _, .tup h r => .tup (smT e h) (DpAll.keep e r)
theorem DpAll.keep (e : Same H H') : ∀ {vs : List V} {ds : List PyData}, DpAll K H vs ds → DpAll K H' vs ds
  | _, _, .nil => .nil
  | _, _, .cons h r => .cons (Dp.keep e h) (DpAll.keep e r)
end
theorem DpAll.len : ∀ {vs : List V} {ds : List PyData}, DpAll K H vs ds → vs.length = ds.length
  | _, _, .nil => rfl
  | _, _, .cons h r => congrArg (· + 1) (DpAll.len r)
theorem DpAll.get : ∀ {vs : List V} {ds : List PyData}, DpAll K H vs ds → ∀ {i : Nat} {d : PyData}, ds[i]? = some d → ∃ v, vs[i]? = some v ∧ Dp K H v d
  | _, _, .nil, i, d, e => by simp at e
  | _, _, .cons h r, 0, d, e => by
    have e' := Option.some.inj e
    subst e'
    exact ⟨_, rfl, h⟩
  | _, _, .cons h r, i + 1, d, e => DpAll.get r (i := i) (by simpa using e)
theorem DpAll.getV : ∀ {vs : List V} {ds : List PyData}, DpAll K H vs ds → ∀ {i : Nat} {v : V}, vs[i]? = some v → ∃ d, ds[i]? = some d ∧ Dp K H v d
  | _, _, .nil, i, d, e => by simp at e
  | _, _, .cons h r, 0, d, e => by
    have e' := Option.some.inj e
    subst e'
    exact ⟨_, rfl, h⟩
  | _, _, .cons h r, i + 1, d, e => DpAll.getV r (i := i) (by simpa using e)
theorem DpAll.snoc : ∀ {vs : List V} {ds : List PyData} {v : V} {d : PyData}, DpAll K H vs ds → Dp K H v d → DpAll K H (vs ++ [v]) (ds ++ [d])
  | _, _, _, _, .nil, h => .cons h .nil
  | _, _, _, _, .cons g r, h => .cons g (DpAll.snoc r h)
theorem DpAll.app : ∀ {vs us : List V} {ds es : List PyData}, DpAll K H vs ds → DpAll K H us es → DpAll K H (vs ++ us) (ds ++ es)
  | _, _, _, _, .nil, h => h
  | _, _, _, _, .cons g r, h => .cons g (DpAll.app r h)
theorem Dp.str_inv {v : V} {x : Str} (h : Dp K H v (.str x)) : v = .str x := by cases h; rfl
theorem Dp.int_inv {v : V} {i : Int} (h : Dp K H v (.int i)) : v = .int i := by cases h; rfl
theorem Dp.tup_inv {v : V} {ds : List PyData} (h : Dp K H v (.tuple ds)) : ∃ a xs, v = .ref a ∧ SqT K H a xs ∧ DpAll K H xs ds := by cases h with | tup h r => exact ⟨_, _, rfl, h, r⟩
theorem Dp.lst_inv {v : V} {ds : List PyData} (h : Dp K H v (.list ds)) : ∃ a xs, v = .ref a ∧ SqL K H a xs ∧ DpAll K H xs ds := by cases h with | lst h r => exact ⟨_, _, rfl, h, r⟩
theorem DpAll.cons_inv {vs : List V} {d : PyData} {ds : List PyData} (h : DpAll K H vs (d :: ds)) : ∃ v r, vs = v :: r ∧ Dp K H v d ∧ DpAll K H r ds := by cases h with | cons h r => exact ⟨_, _, rfl, h, r⟩
theorem DpAll.nil_inv {vs : List V} (h : DpAll K H vs []) : vs = [] := by cases h; rfl
end
/-- a sequence: a list or a tuple -/
def seqD (fl : Bool) (l : List PyData) : PyData := if fl then .list l else .tuple l
theorem seqD_inv {K : PySem.W.Frag} {H : Hp} {v : V} {fl : Bool} {ds : List PyData} (h : Dp K H v (seqD fl ds)) : ∃ a xs, v = .ref a ∧ (SqL K H a xs ∨ SqT K H a xs) ∧ DpAll K H xs ds := by
  cases fl with
  | true => obtain ⟨a, xs, e, h1, h2⟩ := Dp.lst_inv h; exact ⟨a, xs, e, .inl h1, h2⟩
  | false => obtain ⟨a, xs, e, h1, h2⟩ := Dp.tup_inv h; exact ⟨a, xs, e, .inr h1, h2⟩
/-! ### statements -/
inductive Stm where
  | read (v k : Str) | set (v : Str) (n : Int) | copy (v u : Str) | print (v : Str) | say (n : Int) | wait
  | ite (v : Str) (n : Int) (a b : List Stm) | same (v u : Str) (a b : List Stm) | rep (n : Int) (a : List Stm) | stop
namespace Stm
def word : Stm → Str
  | .read .. => "read" | .set .. => "set" | .copy .. => "copy" | .print .. => "print" | .say .. => "say" | .wait => "wait"
  | .ite .. => "if" | .same .. => "same" | .rep .. => "repeat" | .stop => "stop"
def form : Stm → Str
  | .read .. => "kk" | .set .. => "kv" | .copy .. => "kk" | .print .. => "k" | .say .. => "v" | .wait => ""
  | .ite .. => "kvbb" | .same .. => "kkbb" | .rep .. => "tb" | .stop => ""
def flats : Stm → List PyData
  | .read v k => [.str v, .str k] | .set v n => [.str v, .int n] | .copy v u => [.str v, .str u] | .print v => [.str v] | .say n => [.int n] | .wait => []
  | .ite v n _ _ => [.str v, .int n] | .same v u _ _ => [.str v, .str u] | .rep n _ => [.int n] | .stop => []
def bodies : Stm → List (List Stm)
  | .ite _ _ a b => [a, b] | .same _ _ a b => [a, b] | .rep _ a => [a]
  | _ => []
/-- the variables that it names -/
def names : Stm → List Str
  | .read v _ => [v] | .set v _ => [v] | .copy v u => [v, u] | .print v => [v] | .say _ => [] | .wait => []
  | .ite v _ _ _ => [v] | .same v u _ _ => [v, u] | .rep _ _ => [] | .stop => []
end Stm
mutual
def encS (fl : Bool) : Stm → PyData
  | .read v k => .tuple [.str "read", .str v, .str k]
  | .set v n => .tuple [.str "set", .str v, .int n]
  | .copy v u => .tuple [.str "copy", .str v, .str u]
  | .print v => .tuple [.str "print", .str v]
  | .say n => .tuple [.str "say", .int n]
  | .wait => .tuple [.str "wait"]
  | .ite v n a b => .tuple [.str "if", .str v, .int n, seqD fl (encB fl a), seqD fl (encB fl b)]
  | .same v u a b => .tuple [.str "same", .str v, .str u, seqD fl (encB fl a), seqD fl (encB fl b)]
  | .rep n a => .tuple [.str "repeat", .int n, seqD fl (encB fl a)]
  | .stop => .tuple [.str "stop"]
def encB (fl : Bool) : List Stm → List PyData
  | [] => []
  | s :: r => encS fl s :: encB fl r
end
theorem encB_map (fl : Bool) : ∀ l : List Stm, encB fl l = l.map (encS fl)
  | [] => rfl
  | s :: r => by rw [encB, List.map_cons, encB_map fl r]
theorem encS_eq (fl : Bool) (s : Stm) : encS fl s = .tuple (.str s.word :: (s.flats ++ s.bodies.map fun b => seqD fl (encB fl b))) := by
  cases s <;> simp only [encS] <;> rfl
/-! ### words, values -/
def isValue (n : Int) : Bool := decide (-99 ≤ n) && decide (n ≤ 99)
def isLet (c : Nat) : Bool := decide (c ∈ ("abcdefghijklmnopqrstuvwxyz" : Str).cps.toList)
def isWord (z : Str) : Bool := decide (1 ≤ z.length) && decide (z.length ≤ 6) && z.cps.toList.all isLet
theorem isWord_len {z : Str} (h : isWord z = true) : z.length ≤ 6 := by
  unfold isWord at h
  rw [Bool.and_eq_true, Bool.and_eq_true] at h
  exact of_decide_eq_true h.1.2
theorem word_size {z : Str} (h : isWord z = true) : z.length ≤ sizeLine := Nat.le_of_lt (small1000 (by have := isWord_len h; omega))
/-- what stands in a statement itself is right -/
def wl : Stm → Bool
  | .read v k => isWord v && isWord k | .set v n => isWord v && isValue n | .copy v u => isWord v && isWord u | .print v => isWord v | .say n => isValue n | .wait => true
  | .ite v n _ _ => isWord v && isValue n | .same v u _ _ => isWord v && isWord u | .rep n _ => decide (0 ≤ n) && decide (n ≤ 3) | .stop => true
mutual
def wS : Stm → Bool
  | .read v k => isWord v && isWord k | .set v n => isWord v && isValue n | .copy v u => isWord v && isWord u | .print v => isWord v | .say n => isValue n | .wait => true
  | .ite v n a b => isWord v && isValue n && (wB a && wB b) | .same v u a b => isWord v && isWord u && (wB a && wB b) | .rep n a => (decide (0 ≤ n) && decide (n ≤ 3)) && wB a | .stop => true
def wB : List Stm → Bool
  | [] => true
  | s :: r => wS s && wB r
end
theorem wl_of {s : Stm} (h : wS s = true) : wl s = true := by
  cases s <;> simp only [wS, wl] at h ⊢ <;> first | exact h | exact (Bool.and_eq_true_iff.mp h).1
theorem wB_of {s : Stm} (h : wS s = true) : ∀ b ∈ s.bodies, wB b = true := by
  cases s <;> simp only [wS, Stm.bodies, List.mem_cons, List.not_mem_nil, or_false, Bool.and_eq_true, false_implies, implies_true] at h ⊢
  · rintro b (rfl | rfl)
    · exact h.2.1
    · exact h.2.2
  · rintro b (rfl | rfl)
    · exact h.2.1
    · exact h.2.2
  · rintro b rfl
    exact h.2
theorem wB_all : ∀ {l : List Stm}, wB l = true → ∀ s ∈ l, wS s = true
  | [], _, s, h => by simp at h
  | t :: r, w, s, h => by
    rw [wB, Bool.and_eq_true] at w
    rcases List.mem_cons.mp h with rfl | h
    · exact w.1
    · exact wB_all w.2 s h
theorem isValue_rep {n : Int} (h : (decide (0 ≤ n) && decide (n ≤ 3)) = true) : isValue n = true := by
  rw [Bool.and_eq_true] at h
  have h1 := of_decide_eq_true h.1
  have h2 := of_decide_eq_true h.2
  unfold isValue
  rw [decide_eq_true (by omega), decide_eq_true (by omega)]
  rfl
/-! ### numbers of a statement -/
mutual
/-- how deep bodies are nested in a statement, a body -/
def dS : Stm → Nat
  | .ite _ _ a b => max (dB a) (dB b)
  | .same _ _ a b => max (dB a) (dB b)
  | .rep _ a => dB a
  | _ => 0
def dB : List Stm → Nat
  | [] => 1
  | s :: r => max (dS s + 1) (dB r)
end
mutual
/-- how many statements, inner ones counted -/
def cS : Stm → Nat
  | .ite _ _ a b => 1 + cB a + cB b
  | .same _ _ a b => 1 + cB a + cB b
  | .rep _ a => 1 + cB a
  | _ => 1
def cB : List Stm → Nat
  | [] => 0
  | s :: r => cS s + cB r
end
mutual
/-- the statements of a body with their paths, in the order of the text -/
def aS (p : List Int) : Stm → List (List Int × Stm)
  | .ite v n a b => (p, .ite v n a b) :: (aB (p ++ [0]) 0 a ++ aB (p ++ [1]) 0 b)
  | .same v u a b => (p, .same v u a b) :: (aB (p ++ [0]) 0 a ++ aB (p ++ [1]) 0 b)
  | .rep n a => (p, .rep n a) :: aB (p ++ [0]) 0 a
  | s => [(p, s)]
def aB (p : List Int) (i : Nat) : List Stm → List (List Int × Stm)
  | [] => []
  | s :: r => aS (p ++ [(i : Int)]) s ++ aB p (i + 1) r
end
theorem dB_one : ∀ l : List Stm, 1 ≤ dB l
  | [] => Nat.le_refl 1
  | s :: r => by rw [dB]; exact Nat.le_trans (dB_one r) (Nat.le_max_right _ _)
theorem dB_mem : ∀ {l : List Stm} {s : Stm}, s ∈ l → dS s + 1 ≤ dB l
  | [], s, h => by simp at h
  | t :: r, s, h => by
    rw [dB]
    rcases List.mem_cons.mp h with rfl | h
    · exact Nat.le_max_left _ _
    · exact Nat.le_trans (dB_mem h) (Nat.le_max_right _ _)
theorem dS_mem {s : Stm} {b : List Stm} (h : b ∈ s.bodies) : dB b ≤ dS s := by
  cases s <;> simp only [Stm.bodies, List.mem_cons, List.not_mem_nil, or_false] at h <;> simp only [dS]
  · rcases h with rfl | rfl
    · exact Nat.le_max_left _ _
    · exact Nat.le_max_right _ _
  · rcases h with rfl | rfl
    · exact Nat.le_max_left _ _
    · exact Nat.le_max_right _ _
  · rw [h]; exact Nat.le_refl _
theorem cS_pos (s : Stm) : 1 ≤ cS s := by cases s <;> simp only [cS] <;> omega
theorem cB_mem : ∀ {l : List Stm} {s : Stm}, s ∈ l → cS s ≤ cB l
  | [], s, h => by simp at h
  | t :: r, s, h => by
    rw [cB]
    rcases List.mem_cons.mp h with rfl | h
    · omega
    · have := cB_mem h; omega
theorem cS_mem {s : Stm} {b : List Stm} (h : b ∈ s.bodies) : cB b + 1 ≤ cS s := by
  cases s <;> simp only [Stm.bodies, List.mem_cons, List.not_mem_nil, or_false] at h <;> simp only [cS]
  · rcases h with rfl | rfl <;> omega
  · rcases h with rfl | rfl <;> omega
  · rw [h]; omega
theorem cB_len : ∀ l : List Stm, l.length ≤ cB l
  | [] => Nat.le_refl 0
  | s :: r => by
    have := cB_len r
    have := cS_pos s
    rw [cB, List.length_cons]
    omega
/-! ### kinds -/
theorem tyT {K : PySem.W.Frag} {H : Hp} {a : Addr} {xs : List V} (h : SqT K H a xs) : TyX K H (.ref a) (.type "tuple") := by
  rcases h with (h | ⟨o, h⟩) | ⟨o, its, n, h, hc, _⟩
  · exact .base (.tup h)
  · exact .fTuple h
  · exact .kTuple h hc
theorem tyL {K : PySem.W.Frag} {H : Hp} {a : Addr} {xs : List V} (h : SqL K H a xs) : TyX K H (.ref a) (.type "list") := by
  rcases h with (h | ⟨o, h⟩) | ⟨o, its, n, h, hc, _⟩
  · exact .base (.lst h)
  · exact .base (.frz h)
  · exact .kList h hc
/-! ### cuts -/
theorem cut_tail (x : V) (xs : List V) : cutV (x :: xs) (some 1) none = xs := by
  unfold cutV
  have e1 : HT.sIx (x :: xs).length 0 (some 1) = 1 := by
    have := HT.sIx_nat (x :: xs).length 0 1
    rw [show (some 1 : Option Int) = some ((1 : Nat) : Int) from rfl, this, List.length_cons]
    omega
  rw [e1, HT.sIx_none, List.length_cons]
  show (xs.drop 0).take (xs.length + 1 - 1) = xs
  rw [List.drop_zero, Nat.add_sub_cancel, List.take_length]
theorem cut_not {x : V} {xs : List V} : ¬ (HT.sIx (x :: xs).length 0 (some 1) = 0 ∧ HT.sIx (x :: xs).length (x :: xs).length none = (x :: xs).length) := by
  intro h
  have := HT.sIx_nat (x :: xs).length 0 1
  rw [show (some 1 : Option Int) = some ((1 : Nat) : Int) from rfl, this, List.length_cons] at h
  omega
/-! ### comprehensions over a walk: what is kept of each item -/
theorem paired_mono {α β : Type} {F G : α → β → Prop} {l : List α} {m : List β} (p : Paired F l m) (h : ∀ a b, F a b → G a b) : Paired G l m := L2.Paired.mapP p h
/-- a new item goes to the list at D -/
abbrev addsL (D : Addr) (te : TE) : L2.St → Hp → (Hp → Prop) → Prop := fun σ H N => te σ H fun y H1 => ∃ acc, H1 D = some (.lst acc) ∧ acc.length < sizeLine ∧ N (upd H1 D (.lst (acc ++ [y])))
theorem lc_opt {α : Type} {J : It} {n : Nat} {G : Hp → Prop} {Y : Nat → Hp → V → Hp → Prop} (wk : Walk J n G Y) {g : TG} {tt : TT} {te : TE} {vs : List Nat} {σ : L2.St} {H1 : Hp} {D : Addr} {Qd : Hp → Prop}
    (R : α → V → Hp → Prop) (o : Nat → Option α) (hD : H1 D = none) (hn : n < sizeLine) (hG : ∀ H, Same H1 H → G H)
    (hR : ∀ a y H H', R a y H → Same H H' → R a y H') (hRD : ∀ a y H l l', R a y H → H D = some (.lst l) → R a y (upd H D (.lst l')))
    (hs : ∀ i x H H' (N : Hp → Prop), i < n → Same H1 H → Y i H x H' →
      (∀ y H4 a, o i = some a → Same H H4 → R a y H4 → ∃ acc, H4 D = some (.lst acc) ∧ acc.length < sizeLine ∧ N (upd H4 D (.lst (acc ++ [y])))) → (o i = none → ∀ H3, Same H H3 → N H3) →
      g x (wipe σ vs) H' fun σ2 H2 => wipe σ2 vs = wipe σ vs ∧ tt σ2 H2 fun b H3 => if b = true then addsL D te σ2 H3 N else N H3)
    (hd : ∀ H ys, Same H1 H → H D = some (.lst ys) → Paired (fun y a => R a y H) ys ((List.range n).filterMap o) → Qd H) :
    ∃ W : Nat → Nat → Hp → Prop, (∃ m, W 0 m (upd H1 D (.lst []))) ∧ Turns J g tt (addsL D te) (wipe σ vs) vs W Qd := by
  have len : ∀ i, ((List.range i).filterMap o).length ≤ i := fun i => Nat.le_trans (List.length_filterMap_le ..) (by simp)
  refine lc_it wk (fun i H => i ≤ n ∧ Same H1 H ∧ ∃ acc, H D = some (.lst acc) ∧ Paired (fun y a => R a y H) acc ((List.range i).filterMap o)) ⟨Nat.zero_le _, smNew1 hD _, [], upd_same, .nil⟩ (fun i H _ h => hG H h.2.1) ?_ ?_
  · rintro i x H H' hi ⟨_, s1, acc, hacc, p⟩ y
    refine hs i x H H' _ hi s1 y (fun y H4 a ha s4 r => ⟨acc, s4 _ _ hacc, ?_, hi, ?_, acc ++ [y], upd_same, ?_⟩) (fun ha H3 s3 => ⟨hi, fun b u q => s3 _ _ (s1 _ _ q), acc, s3 _ _ hacc, ?_⟩)
    · have := p.length
      have := len i
      omega
    · intro b u q
      rw [upd_ne (ne_of_none q hD)]
      exact s4 _ _ (s1 _ _ q)
    · rw [List.range_succ, List.filterMap_append, List.filterMap_cons, ha]
      refine Paired.snoc (paired_mono p fun y' a' r' => ?_) ?_
      · exact hRD _ _ _ _ _ (hR _ _ _ _ r' s4) (s4 _ _ hacc)
      · exact hRD _ _ _ _ _ r (s4 _ _ hacc)
    · rw [List.range_succ, List.filterMap_append, List.filterMap_cons, ha]
      show Paired _ acc (_ ++ [])
      rw [List.append_nil]
      exact paired_mono p fun y' a' r' => hR _ _ _ _ r' s3
  · rintro H ⟨_, s1, acc, hacc, p⟩
    exact hd H acc s1 hacc p
theorem paired_const {α β : Type} {v : α} : ∀ {ys : List α} {l : List β}, Paired (fun y _ => y = v) ys l → ys = List.replicate l.length v
  | _, _, .nil => rfl
  | _, _, .cons h t => by rw [h, paired_const t]; rfl
theorem range_some {α : Type} (f : Nat → α) (n : Nat) : (List.range n).filterMap (fun i => some (f i)) = (List.range n).map f := by
  induction n with
  | zero => rfl
  | succ n ih => rw [List.range_succ, List.filterMap_append, List.map_append, ih]; rfl
theorem rep_bl (n : Nat) : List.replicate n (V.bl true) = (List.replicate n true).map V.bl := (List.map_replicate ..).symm
theorem all_rep (n : Nat) : (List.replicate n true).all id = true := by
  rw [List.all_eq_true]
  intro x hx
  rw [(List.mem_replicate.mp hx).2]
  rfl
/-! ### data without lists -/
mutual
def noL : PyData → Bool
  | .list _ => false
  | .tuple ds => noLs ds
  | .dict _ => false
  | _ => true
def noLs : List PyData → Bool
  | [] => true
  | d :: r => noL d && noLs r
end
section
variable {K : PySem.W.Frag} {H H' : Hp}
mutual
theorem dp_ts (e : TS K H H') : ∀ {v : V} {d : PyData}, Dp K H v d → noL d = true → Dp K H' v d
  | _, _, .non, _ => .non
  | _, _, .bl b, _ => .bl b
  | _, _, .int i, _ => .int i
  | _, _, .str x, _ => .str x
  | _, _, .lst _ _, n => by simp [noL] at n
  | _, _, .tup h r, n => .tup (e _ _ h) (dps_ts e r (by simpa [noL] using n))
theorem dps_ts (e : TS K H H') : ∀ {vs : List V} {ds : List PyData}, DpAll K H vs ds → noLs ds = true → DpAll K H' vs ds
  | _, _, .nil, _ => .nil
  | _, _, .cons h r, n => by
    rw [noLs, Bool.and_eq_true] at n
    exact .cons (dp_ts e h n.1) (dps_ts e r n.2)
end
end
mutual
theorem noL_encS : ∀ s : Stm, noL (encS false s) = true
  | .read v k => rfl
  | .set v n => rfl
  | .copy v u => rfl
  | .print v => rfl
  | .say n => rfl
  | .wait => rfl
  | .stop => rfl
  | .ite v n a b => by
    have h1 := noL_encB a
    have h2 := noL_encB b
    simp only [encS, seqD, Bool.false_eq_true, if_false, noL, noLs, h1, h2, Bool.and_self]
  | .same v u a b => by
    have h1 := noL_encB a
    have h2 := noL_encB b
    simp only [encS, seqD, Bool.false_eq_true, if_false, noL, noLs, h1, h2, Bool.and_self]
  | .rep n a => by
    have h1 := noL_encB a
    simp only [encS, seqD, Bool.false_eq_true, if_false, noL, noLs, h1, Bool.and_self]
theorem noL_encB : ∀ l : List Stm, noLs (encB false l) = true
  | [] => rfl
  | s :: r => by
    have h1 := noL_encS s
    have h2 := noL_encB r
    rw [encB, noLs, h1, h2]
    rfl
end
theorem noLs_get : ∀ {ds : List PyData}, noLs ds = true → ∀ d ∈ ds, noL d = true
  | [], _, d, h => by simp at h
  | e :: r, n, d, h => by
    rw [noLs, Bool.and_eq_true] at n
    rcases List.mem_cons.mp h with rfl | h
    · exact n.1
    · exact noLs_get n.2 d h
theorem noLs_of : ∀ {ds : List PyData}, (∀ d ∈ ds, noL d = true) → noLs ds = true
  | [], _ => rfl
  | e :: r, h => by rw [noLs, h e List.mem_cons_self, noLs_of fun d hd => h d (List.mem_cons_of_mem _ hd)]; rfl
theorem noLs_app : ∀ {ds es : List PyData}, noLs ds = true → noLs es = true → noLs (ds ++ es) = true
  | [], _, _, h => h
  | e :: r, es, n, h => by
    rw [noLs, Bool.and_eq_true] at n
    rw [List.cons_append, noLs, n.1, noLs_app n.2 h]
    rfl
/-- a tuple of ints -/
def pathD (p : List Int) : PyData := .tuple (p.map .int)
theorem noL_path (p : List Int) : noL (pathD p) = true := by
  show noLs (p.map .int) = true
  exact noLs_of fun d h => by
    obtain ⟨i, _, rfl⟩ := List.mem_map.mp h
    rfl
theorem ints_dp {K : PySem.W.Frag} {H : Hp} : ∀ p : List Int, DpAll K H (p.map V.int) (p.map .int)
  | [] => .nil
  | i :: r => .cons (.int i) (ints_dp r)
theorem ints_inv {K : PySem.W.Frag} {H : Hp} : ∀ {p : List Int} {vs : List V}, DpAll K H vs (p.map .int) → vs = p.map V.int
  | [], _, h => DpAll.nil_inv h
  | i :: r, _, h => by
    obtain ⟨v, q, rfl, h1, h2⟩ := DpAll.cons_inv h
    rw [Dp.int_inv h1, ints_inv h2]
    rfl
theorem path_dp {K : PySem.W.Frag} {H : Hp} {a : Addr} {p : List Int} (h : SqT K H a (p.map V.int)) : Dp K H (.ref a) (pathD p) := .tup h (ints_dp p)
theorem path_inv {K : PySem.W.Frag} {H : Hp} {v : V} {p : List Int} (h : Dp K H v (pathD p)) : ∃ a, v = .ref a ∧ SqT K H a (p.map V.int) := by
  obtain ⟨a, xs, rfl, h1, h2⟩ := Dp.tup_inv h
  rw [ints_inv h2] at h1
  exact ⟨a, rfl, h1⟩
/-! ### the signs of a statement's items -/
def Stm.signs : Stm → List Nat
  | .read .. => [107, 107] | .set .. => [107, 118] | .copy .. => [107, 107] | .print .. => [107] | .say .. => [118] | .wait => []
  | .ite .. => [107, 118, 98, 98] | .same .. => [107, 107, 98, 98] | .rep .. => [116, 98] | .stop => []
theorem signs_eq (s : Stm) : s.form.cps.toList = s.signs := by cases s <;> (simp only [Stm.form, Stm.signs]; decide +kernel)
theorem sign_at {s : Stm} {i c : Nat} (h : s.form.cps[i]? = some c) : s.signs[i]? = some c := by rw [← signs_eq]; simpa using h
/-- one sign of a text beside another -/
theorem sgn (c x : Nat) : decide (V.str ⟨#[c]⟩ = V.str ⟨#[x]⟩) = decide (c = x) := by
  by_cases h : c = x
  · rw [h, decide_eq_true rfl, decide_eq_true rfl]
  · rw [decide_eq_false h, decide_eq_false]
    intro e
    injection e with e1
    injection e1 with e2
    exact h (by simpa using e2)
theorem str_k : ("k" : Str) = ⟨#[107]⟩ := by decide +kernel
theorem str_b : ("b" : Str) = ⟨#[98]⟩ := by decide +kernel
/-- the items that are bodies, by their signs -/
theorem bodies_sel (s : Stm) (f : List Stm → PyData) :
    (List.range (s.flats ++ s.bodies.map f).length).filterMap (fun i => if s.signs[i]? = some 98 then (s.flats ++ s.bodies.map f)[i]? else none) = s.bodies.map f := by
  cases s <;> rfl
theorem names_sel (s : Stm) (f : List Stm → PyData) (h : ∀ v k, s ≠ .read v k) :
    (List.range (s.flats ++ s.bodies.map f).length).filterMap (fun i => if s.signs[i]? = some 107 then (s.flats ++ s.bodies.map f)[i]? else none) = s.names.map .str := by
  cases s <;> first | rfl | exact absurd rfl (h _ _)
theorem some_range {α : Type} : ∀ (l : List α), (List.range l.length).filterMap (fun i => l[i]?) = l := by
  intro l
  have e : ∀ n, n ≤ l.length → (List.range n).filterMap (fun i => l[i]?) = l.take n := by
    intro n
    induction n with
    | zero => intro _; simp
    | succ n ih =>
      intro hn
      rw [List.range_succ, List.filterMap_append, ih (by omega), List.take_add_one]
      have : l[n]? = some l[n] := List.getElem?_eq_getElem (by omega)
      simp [this]
  rw [e l.length (Nat.le_refl _), List.take_length]
theorem sign98 {s : Stm} {i : Nat} (h : s.signs[i]? = some 98) : ∃ b ∈ s.bodies, ∀ f : List Stm → PyData, (s.flats ++ s.bodies.map f)[i]? = some (f b) := by
  cases s with
  | ite v n a b =>
    match i, h with
    | 2, _ => exact ⟨a, by simp [Stm.bodies], fun f => rfl⟩
    | 3, _ => exact ⟨b, by simp [Stm.bodies], fun f => rfl⟩
    | 0, h => simp [Stm.signs] at h
    | 1, h => simp [Stm.signs] at h
    | n + 4, h => simp [Stm.signs] at h
  | same v n a b =>
    match i, h with
    | 2, _ => exact ⟨a, by simp [Stm.bodies], fun f => rfl⟩
    | 3, _ => exact ⟨b, by simp [Stm.bodies], fun f => rfl⟩
    | 0, h => simp [Stm.signs] at h
    | 1, h => simp [Stm.signs] at h
    | n + 4, h => simp [Stm.signs] at h
  | rep n a =>
    match i, h with
    | 1, _ => exact ⟨a, by simp [Stm.bodies], fun f => rfl⟩
    | 0, h => simp [Stm.signs] at h
    | n + 2, h => simp [Stm.signs] at h
  | read v k => match i, h with
    | 0, h => simp [Stm.signs] at h
    | 1, h => simp [Stm.signs] at h
    | n + 2, h => simp [Stm.signs] at h
  | set v k => match i, h with
    | 0, h => simp [Stm.signs] at h
    | 1, h => simp [Stm.signs] at h
    | n + 2, h => simp [Stm.signs] at h
  | copy v k => match i, h with
    | 0, h => simp [Stm.signs] at h
    | 1, h => simp [Stm.signs] at h
    | n + 2, h => simp [Stm.signs] at h
  | print v => match i, h with
    | 0, h => simp [Stm.signs] at h
    | n + 1, h => simp [Stm.signs] at h
  | say v => match i, h with
    | 0, h => simp [Stm.signs] at h
    | n + 1, h => simp [Stm.signs] at h
  | wait => simp [Stm.signs] at h
  | stop => simp [Stm.signs] at h
theorem signFlat {s : Stm} {i c : Nat} (h : s.signs[i]? = some c) (n : c ≠ 98) : ∃ d, noL d = true ∧ ∀ f : List Stm → PyData, (s.flats ++ s.bodies.map f)[i]? = some d := by
  cases s with
  | ite v m a b =>
    match i, h with
    | 0, _ => exact ⟨.str v, rfl, fun f => rfl⟩
    | 1, _ => exact ⟨.int m, rfl, fun f => rfl⟩
    | 2, h => exact absurd (Option.some.inj h).symm n
    | 3, h => exact absurd (Option.some.inj h).symm n
    | k + 4, h => simp [Stm.signs] at h
  | same v m a b =>
    match i, h with
    | 0, _ => exact ⟨.str v, rfl, fun f => rfl⟩
    | 1, _ => exact ⟨.str m, rfl, fun f => rfl⟩
    | 2, h => exact absurd (Option.some.inj h).symm n
    | 3, h => exact absurd (Option.some.inj h).symm n
    | k + 4, h => simp [Stm.signs] at h
  | rep m a =>
    match i, h with
    | 0, _ => exact ⟨.int m, rfl, fun f => rfl⟩
    | 1, h => exact absurd (Option.some.inj h).symm n
    | k + 2, h => simp [Stm.signs] at h
  | read v k => match i, h with
    | 0, h => exact ⟨.str v, rfl, fun f => rfl⟩
    | 1, h => exact ⟨.str k, rfl, fun f => rfl⟩
    | n + 2, h => simp [Stm.signs] at h
  | set v k => match i, h with
    | 0, h => exact ⟨.str v, rfl, fun f => rfl⟩
    | 1, h => exact ⟨.int k, rfl, fun f => rfl⟩
    | n + 2, h => simp [Stm.signs] at h
  | copy v k => match i, h with
    | 0, h => exact ⟨.str v, rfl, fun f => rfl⟩
    | 1, h => exact ⟨.str k, rfl, fun f => rfl⟩
    | n + 2, h => simp [Stm.signs] at h
  | print v => match i, h with
    | 0, h => exact ⟨.str v, rfl, fun f => rfl⟩
    | n + 1, h => simp [Stm.signs] at h
  | say v => match i, h with
    | 0, h => exact ⟨.int v, rfl, fun f => rfl⟩
    | n + 1, h => simp [Stm.signs] at h
  | wait => simp [Stm.signs] at h
  | stop => simp [Stm.signs] at h
theorem items_len (s : Stm) (f : List Stm → PyData) : (s.flats ++ s.bodies.map f).length = s.signs.length := by cases s <;> rfl
/-! ### paths -/
def aBs (q : List Int) : Nat → List (List Stm) → List (List Int × Stm)
  | _, [] => []
  | j, b :: r => aB (q ++ [(j : Int)]) 0 b ++ aBs q (j + 1) r
theorem aS_eq (q : List Int) (s : Stm) : aS q s = (q, s) :: aBs q 0 s.bodies := by
  cases s <;> simp only [aS, Stm.bodies, aBs, List.append_nil] <;> rfl
theorem aB_app (p : List Int) : ∀ (l m : List Stm) (k : Nat), aB p k (l ++ m) = aB p k l ++ aB p (k + l.length) m
  | [], m, k => rfl
  | s :: r, m, k => by
    rw [List.cons_append, aB, aB, aB_app p r m (k + 1), List.append_assoc, List.length_cons]
    rw [show k + 1 + r.length = k + (r.length + 1) by omega]
theorem aBs_app (q : List Int) : ∀ (l m : List (List Stm)) (k : Nat), aBs q k (l ++ m) = aBs q k l ++ aBs q (k + l.length) m
  | [], m, k => rfl
  | s :: r, m, k => by
    rw [List.cons_append, aBs, aBs, aBs_app q r m (k + 1), List.append_assoc, List.length_cons]
    rw [show k + 1 + r.length = k + (r.length + 1) by omega]
theorem take_more {α : Type} {l : List α} {i : Nat} {x : α} (h : l[i]? = some x) : l.take (i + 1) = l.take i ++ [x] := by
  rw [List.take_add_one, h]
  rfl
theorem len_take {α : Type} {l : List α} {i : Nat} {x : α} (h : l[i]? = some x) : (l.take i).length = i := by
  have := (List.getElem?_eq_some_iff.mp h).1
  rw [List.length_take]
  omega
theorem aB_take {p : List Int} {l : List Stm} {i : Nat} {s : Stm} (h : l[i]? = some s) : aB p 0 (l.take (i + 1)) = aB p 0 (l.take i) ++ aS (p ++ [(i : Int)]) s := by
  rw [take_more h, aB_app, len_take h]
  show _ ++ aB p (0 + i) [s] = _
  rw [Nat.zero_add, aB, aB, List.append_nil]
theorem aBs_take {q : List Int} {l : List (List Stm)} {i : Nat} {b : List Stm} (h : l[i]? = some b) : aBs q 0 (l.take (i + 1)) = aBs q 0 (l.take i) ++ aB (q ++ [(i : Int)]) 0 b := by
  rw [take_more h, aBs_app, len_take h]
  show _ ++ aBs q (0 + i) [b] = _
  rw [Nat.zero_add, aBs, aBs, List.append_nil]
mutual
theorem aS_len : ∀ (p : List Int) (s : Stm), (aS p s).length = cS s
  | p, .ite v n a b => by simp only [aS, cS, List.length_cons, List.length_append, aB_len]; omega
  | p, .same v n a b => by simp only [aS, cS, List.length_cons, List.length_append, aB_len]; omega
  | p, .rep n a => by simp only [aS, cS, List.length_cons, aB_len]; omega
  | p, .read v k => rfl
  | p, .set v k => rfl
  | p, .copy v k => rfl
  | p, .print v => rfl
  | p, .say v => rfl
  | p, .wait => rfl
  | p, .stop => rfl
theorem aB_len : ∀ (p : List Int) (k : Nat) (l : List Stm), (aB p k l).length = cB l
  | p, k, [] => rfl
  | p, k, s :: r => by rw [aB, cB, List.length_append, aS_len, aB_len]
end
/-! ### depths -/
def dBs : List (List Stm) → Nat
  | [] => 0
  | b :: r => max (dB b) (dBs r)
theorem dS_eq (s : Stm) : dS s = dBs s.bodies := by cases s <;> simp [dS, Stm.bodies, dBs]
theorem dBs_snoc : ∀ (l : List (List Stm)) (b : List Stm), dBs (l ++ [b]) = max (dBs l) (dB b)
  | [], b => by simp [dBs]
  | c :: r, b => by rw [List.cons_append, dBs, dBs, dBs_snoc r b, Nat.max_assoc]
theorem dB_snoc : ∀ (l : List Stm) (s : Stm), dB (l ++ [s]) = max (dB l) (dS s + 1)
  | [], s => by simp only [List.nil_append, dB]; omega
  | c :: r, s => by rw [List.cons_append, dB, dB, dB_snoc r s, Nat.max_assoc]
end RM

set_option Elab.async false
set_option linter.all false
set_option maxRecDepth 100000
set_option maxHeartbeats 2000000
/-! what == reads of a program's data -/
namespace RM
open PySem PySem.Spec PyProof.Rows L2
theorem noL_tuple {ds : List PyData} (h : noLs ds = true) : noL (.tuple ds) = true := h
theorem let_lt {c : Nat} (h : isLet c = true) : c < 128 := by
  have a : ∀ c ∈ ("abcdefghijklmnopqrstuvwxyz" : Str).cps.toList, c < 128 := by decide +kernel
  exact a c (of_decide_eq_true h)
theorem word_ok {z : Str} (h : isWord z = true) : PyData.strOk z = true := by
  unfold isWord at h
  rw [Bool.and_eq_true] at h
  unfold PyData.strOk
  rw [Array.all_eq_true]
  intro i hi
  have := List.all_eq_true.mp h.2 (z.cps[i]) (by simp)
  exact decide_eq_true (Nat.lt_trans (let_lt this) (by decide))
theorem lay_seq {fl : Bool} {ds : List PyData} (h : PyData.canLayAll0 ds = true) : (seqD fl ds).canLay0 = true := by
  cases fl <;> exact h
theorem dep_seq {fl : Bool} {ds : List PyData} : (seqD fl ds).depth = PyData.depthAll ds + 1 := by
  cases fl <;> simp only [seqD, PyData.depth] <;> rfl
theorem ok_words : ∀ z ∈ (["read", "set", "copy", "print", "say", "wait", "if", "same", "repeat", "stop"] : List Str), PyData.strOk z = true := by decide +kernel
mutual
theorem lay_encS (fl : Bool) : ∀ s : Stm, wS s = true → (encS fl s).canLay0 = true
  | .read v k, h => by
    simp only [wS, Bool.and_eq_true] at h
    simp only [encS, PyData.canLay0, PyData.canLayAll0, word_ok h.1, word_ok h.2, ok_words "read" (by decide), Bool.and_self]
  | .set v n, h => by
    simp only [wS, Bool.and_eq_true] at h
    simp only [encS, PyData.canLay0, PyData.canLayAll0, word_ok h.1, ok_words "set" (by decide), Bool.and_self]
  | .copy v u, h => by
    simp only [wS, Bool.and_eq_true] at h
    simp only [encS, PyData.canLay0, PyData.canLayAll0, word_ok h.1, word_ok h.2, ok_words "copy" (by decide), Bool.and_self]
  | .print v, h => by
    simp only [wS] at h
    simp only [encS, PyData.canLay0, PyData.canLayAll0, word_ok h, ok_words "print" (by decide), Bool.and_self]
  | .say n, h => by
    simp only [encS, PyData.canLay0, PyData.canLayAll0, ok_words "say" (by decide), Bool.and_self]
  | .wait, h => by
    simp only [encS, PyData.canLay0, PyData.canLayAll0, ok_words "wait" (by decide), Bool.and_self]
  | .stop, h => by
    simp only [encS, PyData.canLay0, PyData.canLayAll0, ok_words "stop" (by decide), Bool.and_self]
  | .ite v n a b, h => by
    simp only [wS, Bool.and_eq_true] at h
    simp only [encS, PyData.canLay0, PyData.canLayAll0, word_ok h.1.1, lay_seq (lay_encB fl a h.2.1), lay_seq (lay_encB fl b h.2.2), ok_words "if" (by decide), Bool.and_self]
  | .same v u a b, h => by
    simp only [wS, Bool.and_eq_true] at h
    simp only [encS, PyData.canLay0, PyData.canLayAll0, word_ok h.1.1, word_ok h.1.2, lay_seq (lay_encB fl a h.2.1), lay_seq (lay_encB fl b h.2.2), ok_words "same" (by decide), Bool.and_self]
  | .rep n a, h => by
    simp only [wS, Bool.and_eq_true] at h
    simp only [encS, PyData.canLay0, PyData.canLayAll0, lay_seq (lay_encB fl a h.2), ok_words "repeat" (by decide), Bool.and_self]
theorem lay_encB (fl : Bool) : ∀ l : List Stm, wB l = true → PyData.canLayAll0 (encB fl l) = true
  | [], _ => by simp only [encB, PyData.canLayAll0]
  | s :: r, h => by
    simp only [wB, Bool.and_eq_true] at h
    simp only [encB, PyData.canLayAll0, lay_encS fl s h.1, lay_encB fl r h.2, Bool.and_self]
end
mutual
theorem dep_encS (fl : Bool) : ∀ s : Stm, (encS fl s).depth ≤ 2 * dS s + 1
  | .read v k => by simp [encS, PyData.depth, PyData.depthAll]
  | .set v n => by simp [encS, PyData.depth, PyData.depthAll]
  | .copy v u => by simp [encS, PyData.depth, PyData.depthAll]
  | .print v => by simp [encS, PyData.depth, PyData.depthAll]
  | .say n => by simp [encS, PyData.depth, PyData.depthAll]
  | .wait => by simp [encS, PyData.depth, PyData.depthAll]
  | .stop => by simp [encS, PyData.depth, PyData.depthAll]
  | .ite v n a b => by
    have h1 := dep_encB fl a
    have h2 := dep_encB fl b
    simp only [encS, PyData.depth, PyData.depthAll, dep_seq, dS]
    omega
  | .same v u a b => by
    have h1 := dep_encB fl a
    have h2 := dep_encB fl b
    simp only [encS, PyData.depth, PyData.depthAll, dep_seq, dS]
    omega
  | .rep n a => by
    have h1 := dep_encB fl a
    simp only [encS, PyData.depth, PyData.depthAll, dep_seq, dS]
    omega
theorem dep_encB (fl : Bool) : ∀ l : List Stm, PyData.depthAll (encB fl l) + 1 ≤ 2 * dB l
  | [] => by simp [encB, PyData.depthAll, dB]
  | s :: r => by
    have h1 := dep_encS fl s
    have h2 := dep_encB fl r
    simp only [encB, PyData.depthAll, dB]
    omega
end
theorem shaped_encB {fl : Bool} {l : List Stm} (h : wB l = true) (hd : dB l ≤ 4) : SeqAt.shaped (seqD fl (encB fl l)) = true := by
  unfold SeqAt.shaped
  rw [lay_seq (lay_encB fl l h), dep_seq, decide_eq_true (by have := dep_encB fl l; omega)]
  rfl
theorem eqv_encB {fl : Bool} {l : List Stm} (h : wB l = true) : PyData.eqv (seqD fl (encB fl l)) (seqD fl (encB fl l)) = true := SeqAt.eqv_refl _ (lay_seq (lay_encB fl l h))
theorem encB_get {fl : Bool} {l : List Stm} {i : Nat} {d : PyData} (h : (encB fl l)[i]? = some d) : ∃ s, l[i]? = some s ∧ d = encS fl s := by
  rw [encB_map, List.getElem?_map] at h
  obtain ⟨s, hs, e⟩ := Option.map_eq_some_iff.mp h
  exact ⟨s, hs, e.symm⟩
theorem ty_seq {K : PySem.W.Frag} {H0 H : Hp} {a : Addr} {xs : List V} (h : SqL K H0 a xs ∨ SqT K H0 a xs) (e : Same H0 H) : ∃ t, TyX K H (.ref a) t ∧ PySem.W.kitAny K t [.type "list", .type "tuple"] = some true := by
  rcases h with h | h
  · exact ⟨.type "list", tyL (e.seq h), kitAny_cons (b := true) (kit_ty (by decide +kernel)) (fun z => by cases z) (fun _ => rfl)⟩
  · exact ⟨.type "tuple", tyT (smT e h), kitAny_cons (b := false) (kit_ty (by decide +kernel)) (fun _ => kitAny_cons (b := true) (kit_ty (by decide +kernel)) (fun z => by cases z) (fun _ => rfl)) (fun z => by cases z)⟩
theorem strs_inv {K : PySem.W.Frag} {H : Hp} : ∀ {zs : List Str} {vs : List V}, DpAll K H vs (zs.map .str) → vs = zs.map V.str
  | [], _, h => DpAll.nil_inv h
  | z :: zs, _, h => by
    obtain ⟨v, r, rfl, h1, h2⟩ := DpAll.cons_inv h
    rw [Dp.str_inv h1, strs_inv h2]
    rfl
theorem word_read (s : Stm) : s.word = "read" ↔ ∃ v k, s = .read v k := by
  constructor
  · intro h
    cases s <;> first | exact ⟨_, _, rfl⟩ | exact absurd (show _ = (_ : Str) from h) (by simp only [Stm.word]; decide)
  · rintro ⟨v, k, rfl⟩
    rfl
theorem paired_eq {α : Type} {f : α → V} : ∀ {ys : List V} {l : List α}, Paired (fun y a => y = f a) ys l → ys = l.map f
  | _, _, .nil => rfl
  | _, _, .cons h t => by rw [h, paired_eq t]; rfl
theorem atI_nat0 {α : Type} {xs : List α} {i : Nat} {v : α} (h : xs[i]? = some v) : atI xs (0 + (i : Nat) : Int) = some v := by rw [Int.zero_add]; exact atI_nat h
theorem mk_sm {H H' : Hp} {x dx C : Addr} (hx : H x = none) (hdx : H dx = none) (e : ∀ b u, b ≠ x → (upd (upd H dx (.own x)) x (.ins C dx [])) b = some u → H' b = some u) : Same H H' := fun b u z => by
  refine e b u (ne_of_none z hx) ?_
  rw [upd_ne (ne_of_none z hx), upd_ne (ne_of_none z hdx)]
  exact z
theorem mk_in {H : Hp} {x dx C : Addr} (hx : H x = none) (hdx : H dx = none) (hne : dx ≠ x) : Same H (upd (upd H dx (.own x)) x (.ins C dx [])) :=
  smNew (smNew1 hdx _) (by rw [upd_ne hne.symm]; exact hx) _
/-- x[i], x a list or a tuple -/
def rIxA (K : PySem.W.Frag) : R2 := fun x y H Q => ∃ p xs i v, x = .ref p ∧ y = .int i ∧ (SqL K H p xs ∨ SqT K H p xs) ∧ atI xs i = some v ∧ Q v H
theorem ix_any {X : Cx} : IxR X (rIxA X.K) := by
  intro value slice pins s σ H x y v u Q I rx ry h hs
  obtain ⟨p, xs, i, v', e1, e2, h | h, h2, q⟩ := h
  · exact ix_list value slice pins s σ H x y v u Q I rx ry ⟨p, xs, i, v', e1, e2, h, h2, q⟩ hs
  · exact ix_tup value slice pins s σ H x y v u Q I rx ry ⟨p, xs, i, v', e1, e2, h, h2, q⟩ hs
end RM

set_option Elab.async false
set_option linter.all false
set_option maxRecDepth 100000
set_option maxHeartbeats 2000000
namespace RM
open PySem PySem.Spec PyProof.Rows L2
/-! ### own exception classes: what the head tells -/
/-- an exception class with its own __init__ -/
def oexB (K : PySem.W.Frag) (C : Addr) : Bool :=
  (match K.lookup C with
    | some ⟨.type t, _, .cls cd, sl⟩ => (match cd.mro, sl.toList with
      | .ref c :: bm, [_, _, _, _, some (.builtin n), _] => decide (t = "type") && (decide (c = C) && (decide (n = "ValueError.__new__") && ((!cd.hasDel) && (cd.hasDict && PySem.HandSPX.refsVE bm))))
      | _, _ => false)
    | _ => false) &&
  (He.eqO (PySem.W.findIn K (.ref C) "__setattr__") (some (some (.builtin "object.__setattr__"))) && (decide (PySem.W.subIn K (.ref C) (.type "BaseException") = some true) &&
    (decide (PySem.W.typeIn K (.ref C) = some (.type "type")) && PySem.W.keepIn K (.ref C))))
theorem oexB_ok {K : PySem.W.Frag} {C : Addr} (h : oexB K C = true) : OexC K C := by
  obtain ⟨h0, h⟩ := He.ba h
  obtain ⟨h1, h⟩ := He.ba h
  obtain ⟨h2, h⟩ := He.ba h
  obtain ⟨h3, h4⟩ := He.ba h
  refine ⟨?_, He.eqO_ok h1, of_decide_eq_true h2, of_decide_eq_true h3, h4⟩
  split at h0
  case h_2 => cases h0
  case h_1 t dd cd sl lk =>
    split at h0
    case h_2 => cases h0
    case h_1 c bm k0 k1 k2 k3 n k5 hm hsl =>
      obtain ⟨q1, h0⟩ := He.ba h0
      obtain ⟨q2, h0⟩ := He.ba h0
      obtain ⟨q3, h0⟩ := He.ba h0
      obtain ⟨q4, h0⟩ := He.ba h0
      obtain ⟨q5, q6⟩ := He.ba h0
      have e1 := of_decide_eq_true q1
      have e2 := of_decide_eq_true q2
      have e3 := of_decide_eq_true q3
      have e4 : cd.hasDel = false := by simpa using q4
      obtain ⟨l⟩ := sl
      have e6 : l = [k0, k1, k2, k3, some (.builtin n), k5] := hsl
      cases cd
      simp only at hm e4 q5
      subst hm e1 e2 e3 e4 q5 e6
      exact ⟨_, _, _, _, _, _, _, _, _, _, _, _, _, _, _, lk, q6⟩
/-- X(), X an own exception class without own __init__ -/
theorem pmk_exc0 {X : Cx} {x : Str} {p pos : Pos} (q : PySem.W.excIn X.K (He.ga X.K x) He.veBase "ValueError.__new__" = true ∧ PySem.W.keepIn X.K (.ref (He.ga X.K x)) = true ∧ PySem.W.subIn X.K (.ref (He.ga X.K x)) (.type "BaseException") = some true ∧
      PySem.W.typeIn X.K (.ref (He.ga X.K x)) = some (.type "type")) (gC : X.mg x = some (.ref (He.ga X.K x))) (hg : Gl X x := by rfl) (hdb : (x == ("__debug__" : Str)) = false := by decide) :
    PMk X (.Call (.Name x p) [] [] pos) (fun _ H Q => Q (.ref (He.ga X.K x)) none H) := by
  obtain ⟨q1, q2, q3, q4⟩ := q
  intro pins s σ H Q I h
  refine wpAny_Call_Name_kw (ld_glob I hg gC ?_ hdb)
  refine PySem.W.callWith_K0 I.kIn q2 ?_
  obtain ⟨bm, N, nm, qn, bs, hd, sn, sub, ab, col, dd, k0, k1, k2, k3, k5, mN, hC, hN, hni, T⟩ := exc_obj I.kIn q1
  exact wpAny_call_exc_subT F.excBase_ValueError T hC hN hni (fun h' e hm => mk_of I hm (raises_own q3 q4) h (I.hok.gone hm.new)) (by show 0 ≤ sizeLine; exact Nat.zero_le _)
/-! ### defs that let exceptions out -/
section
variable {P : Program} {w : World} {K : PySem.W.Frag} {mg : Str → Option Value} {base : Heap} {k : Nat} {x m : Str} {C : Addr} {sp : Sp}
/-- the body's form -/
def BodyX (P : Program) (w : World) (K : PySem.W.Frag) (mg : Str → Option Value) (base : Heap) (N : List Str) (qual : Str) (st : Stmt) (f : Addr) (k : Nat) (sp : Sp) : Prop :=
  ∀ (cdv : Value) (A : Around) (outer : List Env) (s : Shared) (H : Hp) (vs : List V) (Q : VK) (E : XK), Room k (A.deeper (envOfC qual (defScope st) s.heap.objs.size f cdv)) → sp vs H Q E →
    ∃ t, PSs (cxOf (L2.CX P w) P w K mg base N qual (defScope st) f cdv A outer s H E) (defBody st) t ∧ t { nx := fun _ H' => Q .non H', rt := Q } (start N vs) H
theorem cal_X {st : Stmt} {f : Addr} {N ps : List Str} (F : ∃ fd, FunD K x x (defArgs st) (defBody st) (defScope st) [] [] f fd) (hm : mg x = some (.ref f)) (S : FnScope N ps (defScope st))
    (hb : ∀ (kV doc pm : Value) (an : Option Addr) (cdv ct : Value) (us : List Value), us.length = ps.length → bindArgs (PySem.W.fnOf x x (defArgs st) (defBody st) (defScope st) .none kV doc pm an cdv ct) ⟨us, []⟩ = pure (ps.zip us))
    (len : ∀ vs H Q E, sp vs H Q E → vs.length = ps.length) (h : BodyX P w K mg base N x st f k sp) : Cal P w K mg base (L2.CX P w) (k + 1) x sp :=
  let ⟨fd, F⟩ := F
  ⟨f, fd, ps, F.ok S len h, hm, F.kp, F.bindsN hb⟩
theorem mak_X {qual : Str} {st : Stmt} {f : Addr} {N ps : List Str} (F : ∃ fd, FunD K "__init__" qual (defArgs st) (defBody st) (defScope st) [] [] f fd) (M : Mk K C f) (hm : mg x = some (.ref C)) (S : FnScope N ps (defScope st))
    (hb : ∀ (kV doc pm : Value) (an : Option Addr) (cdv ct : Value) (us : List Value), us.length = ps.length → bindArgs (PySem.W.fnOf "__init__" qual (defArgs st) (defBody st) (defScope st) .none kV doc pm an cdv ct) ⟨us, []⟩ = pure (ps.zip us))
    (len : ∀ vs H Q E, sp vs H Q E → vs.length = ps.length) (h : BodyX P w K mg base N qual st f k sp) : Mak P w K mg base (L2.CX P w) (k + 1) x C sp :=
  let ⟨fd, F⟩ := F
  ⟨f, fd, ps, M, F.ok S len h, hm, F.bindsN hb⟩
theorem calX_never {x : Str} {st : Stmt} {f : Addr} {ps : List Str} {sp : Sp} {k : Nat} (F : ∃ fd, FunD K x x (defArgs st) (defBody st) (defScope st) [] [] f fd) (hm : mg x = some (.ref f))
    (hb : ∀ (kV doc pm : Value) (an : Option Addr) (cdv ct : Value) (us : List Value), us.length = ps.length → bindArgs (PySem.W.fnOf x x (defArgs st) (defBody st) (defScope st) .none kV doc pm an cdv ct) ⟨us, []⟩ = pure (ps.zip us))
    (no : ∀ vs H Q E, ¬ sp vs H Q E) : Cal P w K mg base (L2.CX P w) k x sp :=
  let ⟨fd, F⟩ := F
  ⟨f, fd, ps, ⟨fun vs H Q E h => absurd h (no vs H Q E), fun A outer s H args us vs Q E _ _ _ _ h => absurd h (no vs H Q E)⟩, hm, F.kp, F.bindsN hb⟩
/-- an own exception class: its name, its __init__ -/
def Exo (P : Program) (w : World) (K : PySem.W.Frag) (mg : Str → Option Value) (base : Heap) (k : Nat) (x : Str) (C : Addr) (sp : Sp) : Prop :=
  ∃ (f : Addr) (fd : FuncData) (ps : List Str), OexC K C ∧ Meth K C "__init__" f ∧ FnOk P w K mg base CX0 k f fd ps sp ∧ mg x = some (.ref C) ∧ Binds K fd ps []
end
section
variable {X : Cx} {W : WX} {k j : Nat} {C : Addr} {x m : Str} {sp : Sp} {E : L2.St → XK} {p pos apos : Pos} {e o : Expr} {es : List Expr} {ta : TE} {t : TA}
/-- f(e, ..), f of a promise with exceptions -/
theorem pcX (tk : Takes X W) (c : Cal X.prog X.w X.K X.mg X.base (L2.CX X.prog X.w) k x sp) (hr : Room j X.A) (ha : PA X (e :: es) t) (hk : k ≤ j := by omega) (hg : Gl X x := by rfl)
    (hpl : (backTo pos (starEach es X.env)).any (·.1) = false := by rfl) (he : starEach (e :: es) X.env = (false, eval e X.env) :: starEach es X.env := by rfl) (hdb : (x == ("__debug__" : Str)) = false := by decide) :
    PE X (.Call (.Name x p) (e :: es) [] pos) (tCallS sp (WE W) t) := by
  obtain ⟨f, fd, ps, F, hm, kp, b⟩ := c
  exact pe_callS F (hr.mono hk) hg hm kp b (fun σ => passAt tk σ) ha hdb he hpl
/-- C(e, ..): a new instance; E at the slots -/
def tMakeS (C : Addr) (sp : Sp) (E : L2.St → XK) (t : TA) : TE := fun σ H Q => t σ H fun vs H1 => ∀ x dx, H1 x = none → H1 dx = none → dx ≠ x →
  sp (.ref x :: vs) (upd (upd H1 dx (.own x)) x (.ins C dx [])) (fun v H2 => v = .non ∧ Q (.ref x) H2) (E σ)
theorem pmkX (tk : Takes X W) (c : Mak X.prog X.w X.K X.mg X.base (L2.CX X.prog X.w) k x C sp) (hr : Room j X.A) (ha : PA X (e :: es) t) (hk : k + 1 ≤ j := by omega) (hg : Gl X x := by rfl)
    (hpl : (backTo pos (starEach es X.env)).any (·.1) = false := by rfl) (he : starEach (e :: es) X.env = (false, eval e X.env) :: starEach es X.env := by rfl) (hdb : (x == ("__debug__" : Str)) = false := by decide) :
    PE X (.Call (.Name x p) (e :: es) [] pos) (tMakeS C sp (WE W) t) := by
  obtain ⟨f, fd, ps, M, F, hm, b⟩ := c
  constructor
  intro pins s σ H Q I h
  refine wpAny_Call_Name_kw (ld_glob I hg hm ?_ hdb)
  refine PySem.W.callWith_K (h₀ := X.base) I.ok.mod.kin M.kp (thn (ha.run pos pins s σ H _ I h) ?_) he hpl
  rintro us s1 ⟨vs, H1, I1, r, q⟩
  refine ⟨I1.kIn, ?_⟩
  have f1 : H1 (s1.heap.objs.size + 1) = none := I1.hok.fresh (Nat.le_succ _)
  have f2 : H1 s1.heap.objs.size = none := I1.hok.fresh (Nat.le_refl _)
  have q1 := q _ _ f1 f2 (Nat.ne_of_lt (Nat.lt_succ_self _))
  have J := Inv.made (C := C) I1
  have rr : Vals (V.ref (s1.heap.objs.size + 1) :: vs) (Value.ref (s1.heap.objs.size + 1) :: us) := .cons rfl r
  have ll : (Value.ref (s1.heap.objs.size + 1) :: us).length = ps.length := rr.length.symm.trans (F.len _ _ _ _ q1)
  have bb := b _ (Value.ref (s1.heap.objs.size + 1) :: us) J.kIn (by rw [List.append_nil]; exact ll)
  rw [List.append_nil] at bb
  refine wpAny_call (make_map (f := f) I1.kIn M.makes M.init (beq_iff_eq.mp M.fn) (codeAny_mono (F.run _ X.stack _ _ ⟨Value.ref (s1.heap.objs.size + 1) :: us, []⟩ _ _ _ _ ((hr.mono hk).make C us []) (J.env0.make C us []) bb rr q1) ?_))
  intro r2 s2 z
  match r2, z with
  | .error y, z => exact passAt tk σ pins _ _ y s2 J z
  | .ok (.ret y), z =>
    obtain ⟨v, H2, J2, rv, rfl, q2⟩ := J.after z
    exact ⟨rv, V.ref (s1.heap.objs.size + 1), H2, J2, rfl, q2⟩
/-- raise C(e, ..), C with its own __init__ -/
theorem ps_raiseX {pos2 : Pos} (tk : Takes X W) (c : Exo X.prog X.w X.K X.mg X.base k x C sp) (hr : Room j X.A) (ha : PA X (e :: es) t) (hc : X.calm = true := by rfl) (hk : k + 1 ≤ j := by omega) (hg : Gl X x := by rfl)
    (hpl : (backTo pos (starEach es X.env)).any (·.1) = false := by rfl) (he : starEach (e :: es) X.env = (false, eval e X.env) :: starEach es X.env := by rfl) (hdb : (x == ("__debug__" : Str)) = false := by decide) :
    PS X (.Raise (some (.Call (.Name x p) (e :: es) [] pos)) none pos2) (fun _ σ H => tMkO C sp [] t σ H fun cls d H' => W cls d σ H') := by
  obtain ⟨f, fd, ps, T, M, F, hm, b⟩ := c
  exact ps_raise hc tk (pmk_oex T M.at_ (beq_iff_eq.mp M.fn) F (hr.mono hk) b .nil pass0 hg hm ha hdb he hpl)
end
/-! ### except clauses, each with or without a name -/
/-- an exception stands caught at the foot of the try -/
def Caught (X : Cx) (pins : List (Addr × Obj)) (σ : L2.St) (H : Hp) (cls : Value) (d : Option Addr) (a : Addr) (s : Shared) : Prop :=
  H a = none ∧ ∃ (B : Heap) (sI : Shared), Inv X pins σ H sI ∧ (∀ b o, sI.heap.get? b = some o → b ∉ frs X.stack → B.get? b = some o) ∧ sI.heap.UpToSlots s.heap ∧ HandSPX.FlyingZ B X.stack a (Zc cls d) s.heap ∧ s.os = sI.os ∧ AllBare s.gens
section
variable {X : Cx} {pins : List (Addr × Obj)} {σ : L2.St} {H : Hp} {cls : Value} {d : Option Addr} {a : Addr} {s : Shared}
theorem Caught.inv (c : Caught X pins σ H cls d a s) : Inv X pins σ H s :=
  let ⟨_, _, _, I, nb, up, fl, os, ag⟩ := c; I.landed nb fl.1 up os ag
theorem Caught.obj (c : Caught X pins σ H cls d a s) : ∃ oe vs, s.heap.get? a = some oe ∧ Zc cls d oe ∧ oe.data = .fields vs :=
  let ⟨_, _, _, _, _, _, fl, _, _⟩ := c; fl.there
theorem Caught.far (c : Caught X pins σ H cls d a s) : a ∉ frs X.stack := by
  obtain ⟨_, _, _, _, _, _, fl, _, _⟩ := c
  obtain ⟨oe, vs, e, _, dd⟩ := fl.there
  intro hm
  obtain ⟨_, o, e', hnf⟩ := fl.2.2.1.mem hm
  rw [e] at e'
  exact hnf vs (Option.some.inj e' ▸ dd)
theorem Caught.suite (c : Caught X pins σ H cls d a s) (hs : X.stack = X.env :: X.outer) (hf : X.env.frame = some X.env.locals) :
    ∃ oe, (Zc cls d oe ∧ ∃ vs, oe.data = .fields vs) ∧ s.heap.get? a = some oe ∧ Inv (X.suite a ((a, oe) :: (X.pn ++ pins))) [] σ H s := by
  obtain ⟨oe, vs, e, z, dd⟩ := c.obj
  have nf := c.far
  rw [hs] at nf
  refine ⟨oe, ⟨z, vs, dd⟩, e, c.inv.suite e dd c.1 (fun h => nf ?_) fun h => nf ?_⟩
  · exact List.mem_filterMap.mpr ⟨X.env, List.mem_cons_self, by rw [hf, h]⟩
  · obtain ⟨u, hu, q⟩ := List.mem_filterMap.mp h
    exact List.mem_filterMap.mpr ⟨u, List.mem_cons_of_mem _ hu, q⟩
theorem Caught.again {M : Model} {A : Around} {Q : Unit → Shared → Prop} {E : Value → Shared → Prop} (c : Caught X pins σ H cls d a s) (h : ∀ s', Caught X pins σ H cls d a s' → Q () s') : wpAny M A (setFlight (.ref a) none) Q E s := by
  obtain ⟨na, B, sI, I, nb, up, fl, os, ag⟩ := c
  exact HandSPX.lands_againZ fl fun h' fl' up' => h _ ⟨na, B, sI, I, nb, up.trans up', fl', os, ag⟩
/-- what a row of clauses wishes, read at the ends -/
def Hds (X : Cx) (hds : List ExceptHandler) (wv : Ends → WX) : Prop :=
  ∀ (pins : List (Addr × Obj)) (D : Ends) (σ : L2.St) (H : Hp) (cls : Value) (d : Option Addr) (a : Addr) (s : Shared), Caught X pins σ H cls d a s → wv D cls d σ H → wpAny (model X.prog X.w) X.A (handleBy (.ref a) X.env hds) (SP X pins D) X.xe s
theorem hds_nil {W : WX} (tk : Takes X W) (hf : X.env.frame = some X.env.locals := by rfl) : Hds X [] (fun _ => W) := by
  intro pins D σ H cls d a s c w
  refine wpAny_handleBy_nil ?_
  obtain ⟨na, B, sI, I, nb, up, fl, os, ag⟩ := c
  obtain ⟨_, _, _, oe, vs, T, _, _, e, _, dd, h1, _⟩ := id fl
  unfold PySem.passOn
  refine wpAny_bind (wpAny_field e dd h1 ?_)
  rw [if_neg (by simp)]
  have out : wpAny (model X.prog X.w) X.A (setFlight (.ref a) X.env.frame) (fun _ s' => wpAny (model X.prog X.w) X.A (throw (.ref a) : Sem Flow) (SP X pins D) X.xe s') X.xe s := by
    rw [hf]
    exact HandSPX.setFlight_upZ fl fun h' hh up' => wpAny_throw (tk _ _ ⟨a, B, sI, pins, σ, H, cls, d, rfl, I, nb, up.trans up', .inr (.inr hh), na, os, ag, w⟩)
  first
    | exact wpAny_bind (wpAny_pure (wpAny_bind out))
    | exact wpAny_bind out
/-- the clause's class is looked at -/
theorem hd_test {x : Str} {np : Pos} {c : Value} {b : Bool} {Q : Bool → Shared → Prop} {E : Value → Shared → Prop} {R : Result → Shared → Prop} {pos' : Pos} (hc : Names X x c) (k : Caught X pins σ H cls d a s) (hs : X.stack = X.env :: X.outer) (hf : X.env.frame = some X.env.locals)
    (hb : PySem.W.exmOne X.K cls c = some b) (h : R (.ok (if b = true then .brk else .next)) s) : codeAny (model X.prog X.w) (X.A.mark (some (.ref a))) (.handlers (.ref a) [.ExceptHandler (some (.Name x np)) none [] pos'] X.env) R s := by
  obtain ⟨oe, ⟨z, _⟩, e, S⟩ := k.suite hs hf
  refine codeAny_handlers_test ?_
  have tyl : PySem.W.Looks (model X.prog X.w) s.heap (typeOf (.ref a)) cls := fun A Q E s k q => wpAny_typeOf_ref (k _ _ e) (by rw [z.1]; exact q)
  have fit := (PySem.W.exm_one (M := model X.prog X.w) k.inv.kIn tyl hb).here (A := X.A.mark (some (.ref a))) (E := notedBy (model X.prog X.w) (X.A.mark (some (.ref a))) X.env fun x s₁ => R (.error x) s₁)
    (Q := fun b s₂ => R (.ok (if b then .brk else .next)) s₂) (s := s) h
  obtain ⟨hg, hd, hm | ⟨hm, hv, hn⟩⟩ := hc
  · exact ld_glob S hg hm fit hd
  · exact ld_blt S hg hm hv fit hn hd
/-- except x: suite -/
def wCl (K : PySem.W.Frag) (c : Value) (ts : Addr → Value → Option Addr → L2.TS) (wr : Ends → WX) : Ends → WX := fun D cls d σ H =>
  ∃ b, PySem.W.exmOne K cls c = some b ∧ (if b = true then ∀ a, H a = none → ts a cls d D σ H else wr D cls d σ H)
/-- the slot of the clause's name is emptied behind -/
def Ends.gone (i : Nat) (D : Ends) : Ends := { nx := fun σ H => D.nx (σ.set i none) H, rt := D.rt, bk := fun σ H => D.bk (σ.set i none) H, ct := fun σ H => D.ct (σ.set i none) H }
/-- except x as n: suite -/
def wClA (K : PySem.W.Frag) (c : Value) (i : Nat) (ts : Addr → Value → Option Addr → L2.TS) (wr : Ends → WX) : Ends → WX := fun D cls d σ H =>
  ∃ b, PySem.W.exmOne K cls c = some b ∧ (if b = true then ∀ a, H a = none → ts a cls d (Ends.gone i D) (σ.set i (some (.ref a))) H else wr D cls d σ H)
theorem hds_cl {x : Str} {np pos' : Pos} {c : Value} {ts : Addr → Value → Option Addr → L2.TS} {b₀ : Stmt} {su : List Stmt} {hds : List ExceptHandler} {wr : Ends → WX} (hc : Names X x c)
    (hsu : ∀ (a : Addr) (oe : Obj) (cls : Value) (d : Option Addr) (pn : List (Addr × Obj)), Zc cls d oe → (∃ vs, oe.data = .fields vs) → PSs (X.suite a ((a, oe) :: pn)) (b₀ :: su) (ts a cls d)) (r : Hds X hds wr)
    (ok : X.Ok → True := fun _ => trivial) (hs : X.stack = X.env :: X.outer := by rfl) (hf : X.env.frame = some X.env.locals := by rfl) : Hds X (.ExceptHandler (some (.Name x np)) none (b₀ :: su) pos' :: hds) (wCl X.K c ts wr) := by
  rintro pins D σ H cls d a s k ⟨b, hb, w⟩
  refine wpAny_handleBy_cons (hd_test (Q := fun _ _ => True) (E := fun _ _ => True) hc k hs hf hb ?_) (fun q => by cases q)
  cases b with
  | false => exact r pins D σ H cls d a s k w
  | true =>
    refine codeAny_handlers_suite (k.again fun s1 k1 => ?_)
    obtain ⟨oe, ⟨z, dd⟩, _, S⟩ := k1.suite hs hf
    refine wpAny_mono ((hsu a oe cls d (X.pn ++ pins) z dd).run [] s1 σ H _ S (w a k.1)) (fun f s2 q => ?_) (fun _ _ q => False.elim q)
    have back : ∀ {σ2 H2}, Inv (X.suite a ((a, oe) :: (X.pn ++ pins))) [] σ2 H2 s2 → Inv X pins σ2 H2 s2 := fun J => J.unsuite k.inv.ok
    match f, q with
    | .ret u, ⟨v, σ2, H2, J, q⟩ => exact ⟨v, σ2, H2, back J, q⟩
    | .next, ⟨σ2, H2, J, q⟩ => exact ⟨σ2, H2, back J, q⟩
    | .brk, ⟨σ2, H2, J, q⟩ => exact ⟨σ2, H2, back J, q⟩
    | .cont, ⟨σ2, H2, J, q⟩ => exact ⟨σ2, H2, back J, q⟩
theorem hds_as {x n : Str} {np pos' : Pos} {c : Value} {i : Nat} {ts : Addr → Value → Option Addr → L2.TS} {b₀ : Stmt} {su : List Stmt} {hds : List ExceptHandler} {wr : Ends → WX} (hN : X.N.Nodup) (hi : X.N[i]? = some n) (hln : X.env.kindOf n = some .local) (hc : Names X x c)
    (hsu : ∀ (a : Addr) (oe : Obj) (cls : Value) (d : Option Addr) (pn : List (Addr × Obj)), Zc cls d oe → (∃ vs, oe.data = .fields vs) → PSs (X.suite a ((a, oe) :: pn)) (b₀ :: su) (ts a cls d)) (r : Hds X hds wr)
    (hs : X.stack = X.env :: X.outer := by rfl) (hf : X.env.frame = some X.env.locals := by rfl) : Hds X (.ExceptHandler (some (.Name x np)) (some n) (b₀ :: su) pos' :: hds) (wClA X.K c i ts wr) := by
  rintro pins D σ H cls d a s k ⟨b, hb, w⟩
  refine wpAny_handleBy_cons (hd_test (Q := fun _ _ => True) (E := fun _ _ => True) hc k hs hf hb ?_) (fun q => by cases q)
  cases b with
  | false => exact r pins D σ H cls d a s k w
  | true =>
    refine codeAny_handlers_suite_as (k.again fun s1 k1 => ?_)
    obtain ⟨oe, ⟨z, dd⟩, _, S⟩ := k1.suite hs hf
    refine store_ok (X := X.suite a ((a, oe) :: (X.pn ++ pins))) (v := .ref a) S hN hi (.inl hln) rfl (fun s2 S2 => ?_) (.inr hln)
    refine wpAny_mono ((hsu a oe cls d (X.pn ++ pins) z dd).run [] s2 _ H _ S2 (w a k.1)) (fun f s3 q => ?_) (fun _ _ q => False.elim q)
    have back : ∀ {σ3 : L2.St} {H3 : Hp} {Q : Unit → Shared → Prop}, Inv (X.suite a ((a, oe) :: (X.pn ++ pins))) [] σ3 H3 s3 → (∀ s4, Inv X pins (σ3.set i none) H3 s4 → Q () s4) →
      wpAny (model X.prog X.w) X.A (do bindName X.env n .none; unbindBehindTheSuite X.env n pos') Q X.xe s3 := fun J g => gone_ok (J.unsuite k.inv.ok) hN hi hln g
    match f, q with
    | .ret u, ⟨v, σ3, H3, J, q⟩ => exact back J fun s4 J4 => ⟨v, _, H3, J4, q⟩
    | .next, ⟨σ3, H3, J, q⟩ => exact back J fun s4 J4 => ⟨_, H3, J4, q⟩
    | .brk, ⟨σ3, H3, J, q⟩ => exact back J fun s4 J4 => ⟨_, H3, J4, q⟩
    | .cont, ⟨σ3, H3, J, q⟩ => exact back J fun s4 J4 => ⟨_, H3, J4, q⟩
/-- try: body / the clauses -/
theorem ps_tryG {body : List Stmt} {h₀ : ExceptHandler} {hds : List ExceptHandler} {wv : Ends → WX} {tb : WX → L2.TS} {pos : Pos}
    (hb : ∀ (W : WX) (pn : List (Addr × Obj)) (xe : Value → Shared → Prop), Takes (X.tr pn xe) W → PSs (X.tr pn xe) body (tb W)) (hh : Hds X (h₀ :: hds) wv)
    (hs : X.stack = X.env :: X.outer := by rfl) (hf : X.env.frame = some X.env.locals := by rfl) : PS X (.Try body (h₀ :: hds) [] [] pos) (fun D σ H => tb (wv D) D σ H) := by
  constructor
  intro pins s σ H D I h
  have ok := I.ok
  have hfr : X.A.frames = some (X.env :: X.outer) := ok.frames.trans (by rw [hs])
  let xe2 : Value → Shared → Prop := fun e s₁ => wpAny (model X.prog X.w) X.A (noteFrame e X.env) (fun _ s₂ => wpAny (model X.prog X.w) X.A (setFlight e none) (fun _ s₃ =>
    wpAny (model X.prog X.w) X.A (handleBy e X.env (h₀ :: hds)) (SP X pins D) X.xe s₃) X.xe s₂) X.xe s₁
  have tk : Takes (X.tr (X.pn ++ pins) xe2) (wv D) := by
    rintro u s' ⟨a, B, sI, pins', σ', H', cls, d, rfl, J, nb, up, sky, na, os, ag, w⟩
    have sky2 : Sky B (X.env :: X.outer) a (Zc cls d) X.env.locals s'.heap := hs ▸ sky
    refine Sky.land Zc.steady hfr hf sky2 fun h3 fl up3 => ?_
    exact hh pins D σ' H' cls d a { s' with heap := h3 } ⟨na, B, sI, J.ofTry ok, nb, up.trans up3, hs ▸ fl, os, ag⟩ w
  refine wpAny_Try_except (wpAny_mono ((hb (wv D) _ _ tk).run [] s σ H D (I.toTry _) h) (fun f s1 q => ?_) (fun _ _ q => q))
  match f, q with
  | .next, ⟨σ2, H2, J, q⟩ => exact wpAny_execs_nil ⟨σ2, H2, J.ofTry ok, q⟩
  | .ret u, ⟨v, σ2, H2, J, q⟩ => exact ⟨v, σ2, H2, J.ofTry ok, q⟩
  | .brk, ⟨σ2, H2, J, q⟩ => exact ⟨σ2, H2, J.ofTry ok, q⟩
  | .cont, ⟨σ2, H2, J, q⟩ => exact ⟨σ2, H2, J.ofTry ok, q⟩
end
end RM

set_option Elab.async false
set_option linter.all false
set_option maxRecDepth 100000
set_option maxHeartbeats 2000000
/-! sets of texts that can be walked: which texts, not their order -/
namespace RM
open PySem PySem.Spec PyProof.Rows L2 PySem.Froz
/-! ### the table: it rises, and its order is told -/
def Wk (w : World) (t : SetTable) : Prop := Ris t.place.toList ∧ (w.params.followText "set-order" = true ∨ t.led = true)
theorem Wk.of {w : World} {t u : SetTable} (k : Wk w t) (h : Ris t.place.toList → Ris u.place.toList) (e : u.led = t.led) : Wk w u := ⟨h k.1, k.2.imp_right fun l => by rw [e, l]⟩
theorem Wk.tail {w : World} {ep : Nat} {es : Array (Int × Value)} {t : SetTable} {b : Bool} (k : Wk w t) : Wk w (tailTx ep es t b).2.2 := by
  by_cases c : (!b && t.tooFull) = true
  · rw [tailTx, if_pos c]
    exact k.of (fun _ => relayAll_ris t es _) (relayAll_led t es _)
  · rw [tailTx, if_neg c]
    exact k
theorem Wk.add {w : World} {z : Int} {v : Value} {D : SD} (k : Wk w D.2.2) : Wk w (addTx z v D).2.2 := by
  rw [addTx]
  have k1 : Wk w (layNew D.2.2 D.1 z v).2.1 := k.of (layNew_ris D.2.2 D.1 z v) (layNew_led D.2.2 D.1 z v)
  by_cases c : (layNew D.2.2 D.1 z v).2.1.plain = true
  · rw [if_pos c]
    exact Wk.tail (t := { (layNew D.2.2 D.1 z v).2.1 with plain := false }) ⟨k1.1, k1.2⟩
  · rw [if_neg c]
    exact k1.tail
/-! ### what is known of such a set -/
structure Txs (P : Program) (w : World) (D : SD) (l : List Str) : Prop where
  ok : TxOk P w D l
  nd : l.Nodup
  wk : Wk w D.2.2
  few : l.length < scanBound
/-- at a stands a set of the texts l -/
def SX (P : Program) (w : World) (h : Heap) (a : Addr) (l : List Str) : Prop := ∃ D : SD, h.get? a = some (sObj "set" D) ∧ Txs P w D l
/-- an empty set as the world makes it -/
abbrev bareX (w : World) : Obj := { cls := .type "set", dict := none, data := .set #[] 0 (.fresh 0 0 (!w.params.followText "set-order")) }
section
variable {P : Program} {w : World} {h h' : Heap} {a : Addr} {l : List Str}
theorem SX.at (R : SX P w h a l) (k : ∀ o, h.get? a = some o → h'.get? a = some o) : SX P w h' a l := R.imp fun _ q => ⟨k _ q.1, q.2⟩
theorem SX.some (R : SX P w h a l) : ∃ o, h.get? a = some o := let ⟨_, e, _⟩ := R; ⟨_, e⟩
theorem sx_fresh (e : h.get? a = some (bareX w)) : SX P w h a [] := by
  refine ⟨(#[], 0, .fresh 0 0 (!w.params.followText "set-order")), e, .nil rfl, List.nodup_nil, ⟨List.Pairwise.nil, ?_⟩, by decide⟩
  by_cases c : w.params.followText "set-order" = true
  · exact .inl c
  · exact .inr (by show (!w.params.followText "set-order") = true; rw [Bool.not_eq_true] at c; rw [c]; rfl)
end
/-- k put to l, if it isn't there -/
def insX (k : Str) (l : List Str) : List Str := if k ∈ l then l else k :: l
theorem insX_mem {k x : Str} {l : List Str} : x ∈ insX k l ↔ x = k ∨ x ∈ l := by
  rw [insX]
  by_cases c : k ∈ l
  · rw [if_pos c]
    exact ⟨Or.inr, fun z => z.elim (fun e => e ▸ c) id⟩
  · rw [if_neg c, List.mem_cons]
theorem insX_len {k : Str} {l : List Str} : (insX k l).length ≤ l.length + 1 := by
  rw [insX]
  by_cases c : k ∈ l
  · rw [if_pos c]; omega
  · rw [if_neg c]; exact Nat.le_refl _
/-! ### a text put in -/
section
variable {P : Program} {w : World} {A : Around} {E : Value → Shared → Prop} {s : Shared} {a : Addr} {l : List Str} {k : Str} {u : Tok}
theorem texts_at {D : SD} (F : TxOk P w D l) (hk : k ∈ l) : ∃ j, List.findIdx? (fun e => (strKind P w).is k e.2) D.1.toList = some j := by
  obtain ⟨e, he, z⟩ := (F.mem k).mp hk
  rw [← Option.isSome_iff_exists, List.findIdx?_isSome, List.any_eq_true]
  exact ⟨e, he, z⟩
/-- one that is there already: nothing happens -/
theorem again_x {D : SD} {Q : Bool → Shared → Prop} (e : s.heap.get? a = some (sObj "set" D)) (F : Txs P w D l) (hk : k ∈ l) (q : Q false s) : wpAny (model P w) A (setAddHashed a (.str k u) (hashStr w k)) Q E s := by
  obtain ⟨j, hj⟩ := texts_at F.ok hk
  have few : D.1.size < scanBound := by rw [F.ok.sz]; exact F.few
  unfold setAddHashed setAddHashedIn
  refine wpAny_holding (wpAny_bind (wpAny_setState_of (es := D.1) (ep := D.2.1) (t := D.2.2) e rfl F.ok.fit ?_))
  dsimp only
  rw [byScan_of (knd := strKind P w) (x := Value.str k u) rfl few F.ok.el]
  rw [if_pos rfl]
  unfold setAddByScan
  refine wpAny_bind (wpAny_bind (wpAny_rule (wpAny_bind (wpAny_setScan_of (knd := strKind P w) (k := k) (es := D.1) (ep := D.2.1) (t := D.2.2) (is_str k u) e rfl F.ok.fit F.ok.el ?_))))
  rw [hj]
  exact wpAny_pure (wpAny_pure q)
/-- setAdd's step behind the hash -/
theorem put_x {Q : Bool → Shared → Prop} (R : SX P w s.heap a l) (room : l.length + 1 < scanBound) (q : ∀ b h', Heap.SameBut a s.heap h' → SX P w h' a (insX k l) → Q b { s with heap := h' }) :
    wpAny (model P w) A (setAddHashed a (.str k u) (hashStr w k)) Q E s := by
  obtain ⟨D, e, F⟩ := id R
  rw [insX] at q
  by_cases c : k ∈ l
  · rw [if_pos c] at q
    exact again_x e F c (q false s.heap (Heap.SameBut.refl a _) R)
  · rw [if_neg c] at q
    refine add_x e F.ok c room (q true _ (Heap.SameBut.update _ _ _) ⟨_, get_upd _ e rfl, add_ok u F.ok, List.nodup_cons.mpr ⟨c, F.nd⟩, F.wk.add, ?_⟩)
    rw [List.length_cons]
    exact room
/-- the whole of setAdd -/
theorem setAdd_x {Q : Bool → Shared → Prop} (R : SX P w s.heap a l) (room : l.length + 1 < scanBound) (q : ∀ b h', Heap.SameBut a s.heap h' → SX P w h' a (insX k l) → Q b { s with heap := h', toks := s.toks + 1 }) :
    wpAny (model P w) A (setAdd a (.str k u)) Q E s := by
  unfold setAdd
  exact wpAny_holding (wpAny_bind ((strKind P w).pyHash (is_str k u) (put_x (s := { s with toks := s.toks + 1 }) R room q)))
/-- s.add(text) -/
theorem call_add_x {Q : Value → Shared → Prop} (R : SX P w s.heap a l) (room : l.length + 1 < scanBound) (q : ∀ h', Heap.SameBut a s.heap h' → SX P w h' a (insX k l) → Q .none { s with heap := h', toks := s.toks + 1 }) :
    wpAny (model P w) A (call (.builtin "set.add") [.ref a, .str k u]) Q E s := by
  have ty : s.TypeIs (.ref a) "set" := let ⟨_, e, _⟩ := R; ⟨_, e, rfl⟩
  refine wpAny_call_entry F.slot_set_add ty F.entry_set_add ?_ (F.args_set_add_2 _ _)
  show wpAny _ _ (setAdd a (.str k u) >>= fun _ => ret Value.none) _ _ s
  exact wpAny_bind (setAdd_x R room fun _ h' sb r => wpAny_pure ⟨_, rfl, q h' sb r⟩)
end
/-! ### as a tracked thing -/
def SetX (P : Program) (w : World) (a : Addr) (l : List Str) : HO := .ext fun h => SX P w h a l
theorem setX_new {P : Program} {w : World} {H : Hp} {h : Heap} {a : Addr} {l : List Str} (R : SX P w h a l) : ObjOk P w H h a (SetX P w a l) := ⟨R, R.some, fun _ _ p k => SX.at p k⟩
section
variable {X : Cx} {pins : List (Addr × Obj)} {σ : L2.St} {H : Hp} {s : Shared}
theorem Txs.of {a : Addr} {l : List Str} (I : Inv X pins σ H s) (e : H a = some (SetX X.prog X.w a l)) : SX X.prog X.w s.heap a l := (I.hok a _ e).1
theorem addX_ok {E : Value → Shared → Prop} {A : Around} {D : Addr} {l : List Str} {k : Str} {u : Tok} {Q : Value → Shared → Prop} (I : Inv X pins σ H s) (hD : H D = some (SetX X.prog X.w D l)) (room : l.length + 1 < scanBound)
    (q : ∀ s', Inv X pins σ (upd H D (SetX X.prog X.w D (insX k l))) s' → Q .none s') : wpAny (model X.prog X.w) A (call (.builtin "set.add") [.ref D, .str k u]) Q E s :=
  call_add_x (Txs.of I hD) room fun _ sb R => q _ (I.write (by rw [hD]; trivial) (.inl rfl) (fun b o ne e => by rw [sb.2 b ne]; exact e) R.some (setX_new R))
end
end RM

set_option Elab.async false
set_option linter.all false
set_option maxRecDepth 100000
set_option maxHeartbeats 4000000
/-! set comprehensions, clause by clause: one theorem of a clause's loop, whatever stands behind its tests -/
namespace RM
open PySem PySem.Spec PyProof.Rows L2 PpSet
/-- the slots that the block keeps are known still -/
def Kept (σ σ' : L2.St) : Prop := ∀ (j : Nat) v, σ[j]? = some (some v) → σ'[j]? = some (some v)
theorem kept_wipe (σ : L2.St) (vs : List Nat) : Kept (wipe σ vs) σ := fun _ _ e => (wipe_some e).1
theorem kept_less {σ : L2.St} {vs ws : List Nat} (h : ∀ i ∈ ws, i ∈ vs) : Kept (wipe σ vs) (wipe σ ws) := fun j v e => by
  obtain ⟨e1, e2⟩ := wipe_some e
  rw [wipe_out fun z => e2 (h j z), e1]
/-- one turn's text: `work` behind the tests -/
def turnText (e : Expr) (k : Nat) (tg : Expr) (p : Pos) (ifs : List Expr) (work : Sem Unit) (it acc : Value) (env : Env) : Sem Fin :=
  standAt p >>= fun _ => pyNext it >>= fun r => match r with
    | none => pure (.done .next)
    | some v => letOwnedTupleGo tg it v >>= fun _ => assign tg env v >>= fun _ =>
      (forIn ifs true fun c r => if r = true then isTrue c env (eval c env) >>= fun ok => pure (ForInStep.yield ok) else pure (ForInStep.yield r)) >>= fun ok =>
        if ok = true then work >>= fun _ => again (.compLoop e k it acc env) else again (.compLoop e k it acc env)
section
variable {Y : Cx} {elt : Expr} {gens : List Comprehension} {scope : Scope} {pos : Pos} {k : Nat} {tg : Expr} {p : Pos} {ifs : List Expr} {work : Sem Unit} {it : Addr} {acc : Value} {pins : List (Addr × Obj)} {fp : List Addr} {tn : Nat → Heap → Prop} {J : It}
  {g : TG} {tt : TT} {wk : L2.St → Hp → (Hp → Prop) → Prop} {σ0 : L2.St} {vs : List Nat} {W : Nat → Nat → Hp → Prop} {fin : Hp → Prop} {R : Result → Shared → Prop}
theorem clause_loop (hY : Y.xe = fun _ _ => False) (hc : Y.calm = true) (he : compTurn (.SetComp elt gens scope pos) k (.ref it) acc Y.env = turnText (.SetComp elt gens scope pos) k tg p ifs work (.ref it) acc Y.env)
    (T : Turn Y.prog Y.w Y.K tg J fp it tn) (own : ∀ b ∈ fp, ∃ H, FpOk Y pins H b) (pg : PG Y tg g) (pt : PTs Y ifs tt)
    (pw : ∀ pl σ H N s, Inv Y (pins ++ pl) σ H s → wk σ H N → wpAny (model Y.prog Y.w) Y.A work (fun _ s' => ∃ σ' H', Inv Y (pins ++ pl) σ' H' s' ∧ Kept (wipe σ vs) σ' ∧ N H') (fun _ _ => False) s)
    (tu : Turns J g tt wk σ0 vs W fin) (hR : ∀ H s, Inv Y pins σ0 H s → fin H → R (.ok .next) s) {m i : Nat} {H : Hp} {s : Shared} (I : Inv Y pins σ0 H s) (st : tn i s.heap) (fr : ∀ b ∈ fp, H b = none) (w : W i m H) :
    codeAny (model Y.prog Y.w) Y.A (.compLoop (.SetComp elt gens scope pos) k (.ref it) acc Y.env) R s := by
  have out : ∀ {H : Hp}, (∀ b ∈ fp, H b = none) → ∀ b ∈ fp, FpOk Y pins H b := fun f b hb => let ⟨_, z⟩ := own b hb; ⟨f b hb, z.2⟩
  refine codeAny_loop rfl (fun n s' => ∃ i H', Inv Y pins σ0 H' s' ∧ tn i s'.heap ∧ (∀ b ∈ fp, H' b = none) ∧ W i n H') ?_ m ⟨i, H, I, st, fr, w⟩
  clear I st fr w
  rintro n s ⟨i, H, I, st, fr, w⟩
  show wpAny _ Y.A ((compTurn (.SetComp elt gens scope pos) k (.ref it) acc Y.env).onRaise fun x => noteFrame x Y.env >>= fun _ => theTreesLotGoes x) _ _ s
  refine wpAny_noted ?_
  rw [he, turnText]
  refine wpAny_bind (wpAny_standAt (wpAny_bind ?_))
  rcases tu i n H w with ⟨stop, q⟩ | ⟨go, N, hN, step⟩
  · refine thnF (T.done Y rfl rfl rfl hc i pins s σ0 H _ I (out fr) st stop) fun r s1 z => ?_
    rw [z.1]
    exact wpAny_pure (hR H s1 z.2 q)
  refine thnF (T.item Y rfl rfl rfl hc i pins s σ0 H _ I (out fr) st go) fun r s1 z => ?_
  obtain ⟨u, rfl, z⟩ := z
  refine wpAny_bind (thnF z fun _ s2 z => ?_)
  obtain ⟨x, H2, I2, rx, y, st2, fr2⟩ := z
  -- what a turn's end asks
  have fine : ∀ {σ' : L2.St} {H' : Hp} {s' : Shared}, Inv Y (pins ++ pinsAt fp s2.heap) σ' H' s' → Kept σ0 σ' → N H' → ∃ n', n' < n ∧ ∃ i H', Inv Y pins σ0 H' s' ∧ tn i s'.heap ∧ (∀ b ∈ fp, H' b = none) ∧ W i n' H' := by
    intro σ' H' s' I' kp nx
    obtain ⟨n', lt, w'⟩ := hN H' nx
    have stays : ∀ b ∈ fp, ∀ o, s2.heap.get? b = some o → s'.heap.get? b = some o ∧ H' b = none := fun b hb o eo => by
      obtain ⟨p1, p2, _⟩ := I'.pin (b, o) (List.mem_append.mpr (.inr (List.mem_append.mpr (.inr (mem_pinsAt hb eo)))))
      exact ⟨p1, p2⟩
    refine ⟨n', lt, i + 1, H', I'.unpinned.weak (I.len.trans I'.len.symm) kp, T.keep _ _ _ st2 fun b hb o eo => (stays b hb o eo).1, fun b hb => ?_, w'⟩
    obtain ⟨o, eo, _⟩ := T.obj _ _ st2 b hb
    exact (stays b hb o eo).2
  have pgr := pg.run _ s2 σ0 H2 x u _ (I2.pinned (out fr2) (T.obj _ _ st2)) rx (step x H2 y)
  rw [hY] at pgr
  refine wpAny_bind (thnF pgr fun _ s3 z => ?_)
  obtain ⟨σ3, H3, I3, e3, z⟩ := z
  have ptr := pt.run _ s3 σ3 H3 _ I3 z
  rw [hY] at ptr
  refine wpAny_bind (thnF ptr fun b s4 z => ?_)
  obtain ⟨H4, I4, z⟩ := z
  by_cases hb : b = true
  · rw [if_pos hb] at z ⊢
    refine wpAny_bind (thnF (pw _ σ3 H4 N s4 I4 z) fun _ s5 z => ?_)
    obtain ⟨σ5, H5, I5, kp, nx⟩ := z
    exact wpAny_pure ⟨rfl, fine I5 (e3 ▸ kp) nx⟩
  · rw [if_neg hb] at z ⊢
    exact wpAny_pure ⟨rfl, fine I4 (e3 ▸ kept_wipe σ3 vs) z⟩
end
/-- a clause's start: its iterator is asked for itself, or not; the loop then -/
theorem clause_start {P : Program} {w : World} {A : Around} {R : Result → Shared → Prop} {s : Shared} {elt : Expr} {gens : List Comprehension} {scope : Scope} {pos : Pos} {k : Nat} {g : Comprehension} {it acc : Value} {env : Env}
    (hg : gens[k]? = some g) (ha : g.is_async = 0) (self : ∀ (Q : Value → Shared → Prop) (E : Value → Shared → Prop), Q it s → wpAny (model P w) A (pyIter it) Q E s)
    (loop : codeAny (model P w) A (.compLoop (.SetComp elt gens scope pos) k it acc env) R s) : codeAny (model P w) A (.compStart (.SetComp elt gens scope pos) k it acc env) R s := by
  refine codeAny_of_tree ?_
  show wpAny _ A ((compStart (.SetComp elt gens scope pos) k it acc env).onRaise fun x => noteFrame x env >>= fun _ => standAt theWindowsPlace) _ _ s
  refine wpAny_notedAt ?_
  have hk : (clausesOf (.SetComp elt gens scope pos))[k]? = some g := hg
  unfold compStart
  rw [hk]
  have hn : ((some g).elim false fun c : Comprehension => c.is_async != 0) = false := by
    show (g.is_async != 0) = false
    rw [ha]; rfl
  rw [hn]
  show wpAny _ _ (ask >>= _) _ _ s
  refine wpAny_bind (wpAny_askSetting ?_)
  show wpAny _ _ (if w.params.followText "comprehension-iter-twice" = true then _ else _) _ _ s
  by_cases c : w.params.followText "comprehension-iter-twice" = true
  · rw [if_pos c]
    exact wpAny_bind (wpAny_pure (wpAny_pure ⟨rfl, loop⟩))
  · rw [if_neg c]
    exact wpAny_bind (wpAny_rule (wpAny_bind (wpAny_standAt (wpAny_bind (self _ _ (wpAny_pure ⟨rfl, loop⟩))))))
section
variable {X : Cx}
/-- in each block with this scope -/
abbrev InBlk (X : Cx) (scope : Scope) (F : Cx → Prop) : Prop := ∀ s H C cl fp, F (X.blk s H scope (compEnvC scope cl C X.env) fp)
/-- a new text is put to D -/
abbrev addsX (P : Program) (w : World) (D : Addr) (te : TE) : L2.St → Hp → (Hp → Prop) → Prop := fun σ H N => te σ H fun y H1 => ∃ (c : Str) (l : List Str), y = .str c ∧ H1 D = some (SetX P w D l) ∧ l.length + 1 < scanBound ∧ N (upd H1 D (SetX P w D (insX c l)))
/-- a set comprehension's reading: wk, what is done behind the first clause's tests -/
def tBlk (P : Program) (w : World) (wi : TI) (g : TG) (tt : TT) (wk : Addr → L2.St → Hp → (Hp → Prop) → Prop) (vs : List Nat) : TE := fun σ H Q => wi σ H fun J H1 => ∀ D, H1 D = none →
  ∃ W : Nat → Nat → Hp → Prop, (∃ m, W 0 m (upd H1 D (SetX P w D []))) ∧ Turns J g tt (wk D) (wipe σ vs) vs W (Q (.ref D))
theorem set_block {elt tg iter : Expr} {ifs : List Expr} {rest : List Comprehension} {scope : Scope} {own : List (Str × Nat)} {pos : Pos} {wi : TI} {g : TG} {tt : TT} {wk : Addr → L2.St → Hp → (Hp → Prop) → Prop} {work : Addr → Env → Sem Unit}
    (hc : X.calm = true) (hN : X.N.Nodup) (hi : PI X tg iter wi) (ok : BlkOk X.N X.env.scope scope own)
    (hg : InBlk X scope fun Y => PG Y tg g)
    (ht : InBlk X scope fun Y => PTs Y ifs tt)
    (he : ∀ it D env, compTurn (.SetComp elt (⟨tg, iter, ifs, 0⟩ :: rest) scope pos) 0 (.ref it) (.ref D) env = turnText (.SetComp elt (⟨tg, iter, ifs, 0⟩ :: rest) scope pos) 0 tg iter.pos ifs (work D env) (.ref it) (.ref D) env)
    (pw : ∀ (s0 : Shared) (H0 : Hp) (C : Addr) (cl : List (Str × Addr)) (fp : List Addr) (D : Addr) pins σ H N s, Inv (X.blk s0 H0 scope (compEnvC scope cl C X.env) fp) pins σ H s → wk D σ H N →
      wpAny (model X.prog X.w) X.A (work D (compEnvC scope cl C X.env)) (fun _ s' => ∃ σ' H', Inv (X.blk s0 H0 scope (compEnvC scope cl C X.env) fp) pins σ' H' s' ∧ Kept (wipe σ (own.map (·.2))) σ' ∧ N H') (fun _ _ => False) s)
    (hs : ∀ x, foldedSetIterable iter X.env x = pure x) : PE X (.SetComp elt (⟨tg, iter, ifs, 0⟩ :: rest) scope pos) (tBlk X.prog X.w wi g tt wk (own.map (·.2))) := by
  refine ⟨fun pins s σ H Q I h => ?_⟩
  rw [eval_SetComp]
  have free : ∀ y ∈ scope.names, y.2 = .free → ∃ c, X.env.cells.lookup y.1 = some c := fun y hy e => I.ok.has _ (ok.free y hy e)
  refine wpAny_comprehension_free (use := none) rfl hs (closure_ok free) ok.kind (fun y hy e => e ▸ ok.uniq y hy) (thn (hi.run pins s σ H _ I h) fun _ _ z => thn z fun _ s2 z => ?_)
  obtain ⟨it, fp, tn, J, H2, rfl, I2, T, st2, f2, q⟩ := z
  refine newSet_ok (newEnv_comp ?_)
  obtain ⟨W, ⟨m0, w0⟩, tu⟩ := q s2.heap.objs.size (I2.hok.fresh (Nat.le_refl _))
  have I3 := I2.laid (t' := s2.toks) (a := s2.heap.objs.size) (fun b o e => Heap.get?_push_of_some (bareX X.w) e) (Nat.le_refl _) (setX_new (sx_fresh (Heap.get?_push_size _ rfl)))
  have young : ∀ b ∈ fp, b < s2.heap.objs.size := fun b hb => let ⟨_, e, _⟩ := T.obj _ _ st2 b hb; Heap.lt_size e
  have st3 := T.keep 0 _ (s2.heap.push (bareX X.w)) st2 fun b _ o e => Heap.get?_push_of_some _ e
  have f3 : ∀ b ∈ fp, FpOk X pins (upd H2 s2.heap.objs.size (SetX X.prog X.w s2.heap.objs.size [])) b := fun b hb => ⟨by rw [upd_ne (Nat.ne_of_lt (young b hb))]; exact (f2 b hb).1, (f2 b hb).2⟩
  have old : ∀ b ∈ fp, b < (s2.heap.push (bareX X.w)).objs.size := fun b hb => by rw [Heap.size_push]; exact Nat.lt_succ_of_lt (young b hb)
  generalize upd H2 s2.heap.objs.size (SetX X.prog X.w s2.heap.objs.size []) = H3 at I3 f3 w0
  generalize s2.heap.objs.size = D at I3 tu ⊢
  generalize hs3 : ({ s2 with heap := s2.heap.push (bareX X.w) } : Shared) = s3 at I3
  have e3 : s3.heap = s2.heap.push (bareX X.w) := by rw [← hs3]
  rw [← e3] at st3 old
  have I4 := block_start I3 ok hN fun b hb => ⟨f3 b hb, old b hb⟩
  have st4 := T.keep 0 _ (pushCells (s3.heap.push { cls := .type "dict", data := .dict #[] }) scope.names) st3 fun b _ o e => pushCells_keeps _ _ _ _ (Heap.get?_push_of_some _ e)
  show codeAny _ _ (.compStart _ 0 (.ref it) (.ref D) (compEnvC scope (cellsFrom (s3.heap.objs.size + 1) scope.names (cloFrom X.env.cells scope.names [])) s3.heap.objs.size X.env)) _
    { s3 with heap := pushCells (s3.heap.push { cls := .type "dict", data := .dict #[] }) scope.names }
  refine clause_start rfl rfl (fun _ _ z => T.self X.A 0 _ _ _ st4 z) ?_
  refine clause_loop (Y := X.blk s3 H3 scope (compEnvC scope (cellsFrom (s3.heap.objs.size + 1) scope.names (cloFrom X.env.cells scope.names [])) s3.heap.objs.size X.env) fp) rfl hc (he _ _ _) T
    (fun b hb => ⟨H3, (f3 b hb).1, (I4.ok.exf b hb).1, I4.ok.exfs b hb, .inl hb, fun x c e => (I4.ok.exf b hb).2 x c e, fun p hp => (List.not_mem_nil (show p ∈ ([] : List (Addr × Obj)) from hp)).elim⟩) (hg _ _ _ _ _) (ht _ _ _ _ _) (fun pl σ' H' N s' I' z => pw _ _ _ _ _ D _ _ _ _ _ I' z) tu (fun H' s' I' q => ?_) I4 st4 (fun b hb => (f3 b hb).1) w0
  -- back in the def
  have J' := I3.call' (ch := fp) I'.os I'.base I'.hok I'.bare fun b hb => let ⟨_, z1, _, z3, z4, z5⟩ := f3 b hb; ⟨z3, z1, z4, z5⟩
  obtain ⟨m, hm, _⟩ := I'.loc
  obtain ⟨n0, n1, n2, n3, n4, n5⟩ := I3.fpOk (H' := H') (Nat.le_refl _) I'.free
  exact ⟨m, hm, fun h'' sb => ⟨.ref D, H', J'.turned (t' := s'.toks) (fun b o hb e => (sb.2 b hb).trans e) n0 n1 n3 n4 n5, rfl, q⟩⟩
/-- the element's text, then its add -/
def emitX (elt : Expr) (D : Addr) (env : Env) : Sem Unit := eval elt env >>= fun v => standAt elt.pos >>= fun _ => call (.builtin "set.add") [.ref D, v] >>= fun _ => pure ()
theorem emits {Y : Cx} {elt : Expr} {te : TE} {D : Addr} {vs : List Nat} (hY : Y.xe = fun _ _ => False) (he : PE Y elt te) {pins σ H N s} (I : Inv Y pins σ H s) (h : addsX Y.prog Y.w D te σ H N) :
    wpAny (model Y.prog Y.w) Y.A (emitX elt D Y.env) (fun _ s' => ∃ σ' H', Inv Y pins σ' H' s' ∧ Kept (wipe σ vs) σ' ∧ N H') (fun _ _ => False) s := by
  have r := he.run pins s σ H _ I h
  rw [hY] at r
  refine wpAny_bind (thnF r fun v s1 z => wpAny_bind (wpAny_standAt (wpAny_bind ?_)))
  obtain ⟨_, H1, I1, rv, c, l, rfl, e, room, nx⟩ := z
  obtain ⟨u, rfl⟩ := (show ∃ u, v = Value.str c u from rv)
  exact addX_ok I1 e room fun s2 I2 => wpAny_pure ⟨σ, _, I2, kept_wipe σ vs, nx⟩
/-- {elt for tg in iter if ..} -/
abbrev tScX (P : Program) (w : World) (wi : TI) (g : TG) (tt : TT) (te : TE) (vs : List Nat) : TE := tBlk P w wi g tt (fun D => addsX P w D te) vs
theorem pe_scX {elt tg iter : Expr} {ifs : List Expr} {scope : Scope} {own : List (Str × Nat)} {pos : Pos} {wi : TI} {g : TG} {tt : TT} {te : TE} (hc : X.calm = true) (hN : X.N.Nodup) (hi : PI X tg iter wi) (ok : BlkOk X.N X.env.scope scope own)
    (hg : InBlk X scope fun Y => PG Y tg g)
    (ht : InBlk X scope fun Y => PTs Y ifs tt)
    (he : InBlk X scope fun Y => PE Y elt te) (hs : ∀ x, foldedSetIterable iter X.env x = pure x := by intro _; rfl) :
    PE X (.SetComp elt [⟨tg, iter, ifs, 0⟩] scope pos) (tScX X.prog X.w wi g tt te (own.map (·.2))) :=
  set_block (work := emitX elt) hc hN hi ok hg ht (fun _ _ _ => rfl) (fun s0 H0 C cl fp D pins σ H N s I h => emits (Y := X.blk s0 H0 scope (compEnvC scope cl C X.env) fp) rfl (he _ _ _ _ _) I h) hs
/-- {elt for tg in iter if .. for tg1 in iter1 if ..}: vs1, the second target's slots -/
abbrev tScX2 (P : Program) (w : World) (wi : TI) (g : TG) (tt : TT) (wi1 : TI) (g1 : TG) (tt1 : TT) (te : TE) (vs vs1 : List Nat) : TE :=
  tBlk P w wi g tt (fun D σ H N => wi1 σ H fun J1 H1 => ∃ W1 : Nat → Nat → Hp → Prop, (∃ m, W1 0 m H1) ∧ Turns J1 g1 tt1 (addsX P w D te) (wipe σ vs1) vs1 W1 N) vs
def innerX (e : Expr) (iter1 : Expr) (D : Addr) (env : Env) : Sem Unit :=
  eval iter1 env >>= fun x => standAt iter1.pos >>= fun _ => foldedSetIterable iter1 env x >>= fun x => holding [x] (pyIter x) >>= fun t => runOwn (.compStart e 1 t (.ref D) env) env >>= fun _ => pure ()
theorem turn_inner {elt tg iter tg1 iter1 : Expr} {ifs ifs1 : List Expr} {scope : Scope} {pos : Pos} {it D : Addr} {env : Env} : compTurn (.SetComp elt [⟨tg, iter, ifs, 0⟩, ⟨tg1, iter1, ifs1, 0⟩] scope pos) 0 (.ref it) (.ref D) env =
    turnText (.SetComp elt [⟨tg, iter, ifs, 0⟩, ⟨tg1, iter1, ifs1, 0⟩] scope pos) 0 tg iter.pos ifs (innerX (.SetComp elt [⟨tg, iter, ifs, 0⟩, ⟨tg1, iter1, ifs1, 0⟩] scope pos) iter1 D env) (.ref it) (.ref D) env := by
  rw [turnText]
  simp only [innerX, bind_assoc, pure_bind]
  rfl
theorem pe_scX2 {elt tg iter tg1 iter1 : Expr} {ifs ifs1 : List Expr} {scope : Scope} {own : List (Str × Nat)} {vs1 : List Nat} {pos : Pos} {wi wi1 : TI} {g g1 : TG} {tt tt1 : TT} {te : TE} (hc : X.calm = true) (hN : X.N.Nodup) (hi : PI X tg iter wi) (ok : BlkOk X.N X.env.scope scope own) (hv : ∀ i ∈ vs1, i ∈ own.map (·.2))
    (hg : InBlk X scope fun Y => PG Y tg g)
    (ht : InBlk X scope fun Y => PTs Y ifs tt)
    (hi1 : InBlk X scope fun Y => PI Y tg1 iter1 wi1)
    (hg1 : InBlk X scope fun Y => PG Y tg1 g1)
    (ht1 : InBlk X scope fun Y => PTs Y ifs1 tt1)
    (he : InBlk X scope fun Y => PE Y elt te) (hs : ∀ x, foldedSetIterable iter X.env x = pure x := by intro _; rfl) (hs1 : ∀ env x, foldedSetIterable iter1 env x = pure x := by intro _ _; rfl) :
    PE X (.SetComp elt [⟨tg, iter, ifs, 0⟩, ⟨tg1, iter1, ifs1, 0⟩] scope pos) (tScX2 X.prog X.w wi g tt wi1 g1 tt1 te (own.map (·.2)) vs1) := by
  refine set_block (work := innerX (.SetComp elt [⟨tg, iter, ifs, 0⟩, ⟨tg1, iter1, ifs1, 0⟩] scope pos) iter1) hc hN hi ok hg ht (fun _ _ _ => turn_inner) (fun s0 H0 C cl fp D pins σ H N s I h => ?_) hs
  refine wpAny_bind (thnF ((hi1 s0 H0 C cl fp).run pins s σ H _ I h) fun x s1 z => wpAny_bind (wpAny_standAt (wpAny_bind (wpAny_of_eq (hs1 _ x) (wpAny_bind (wpAny_holding (thnF z fun t s2 z => ?_)))))))
  obtain ⟨it, fp1, tn, J, H2, rfl, I2, T, st, f, W, ⟨m, w0⟩, tu⟩ := z
  refine wpAny_bind (wpAny_runOwn ?_)
  rw [Around.mark_none]
  exact clause_start rfl rfl (fun _ _ z => T.self X.A 0 _ _ _ st z) (clause_loop (Y := X.blk s0 H0 scope (compEnvC scope cl C X.env) fp) rfl hc (work := emitX elt D (compEnvC scope cl C X.env)) rfl T (fun b hb => ⟨H2, f b hb⟩) (hg1 _ _ _ _ _) (ht1 _ _ _ _ _)
    (fun pl σ' H' N' s' I' z => emits (Y := X.blk s0 H0 scope (compEnvC scope cl C X.env) fp) rfl (he _ _ _ _ _) I' z) tu (fun H' s' I' nx => wpAny_pure ⟨_, H', I', kept_less hv, nx⟩) (I2.weak (wipe_length _ _) (kept_wipe σ vs1)) st (fun b hb => (f b hb).1) w0)
end
end RM

set_option Elab.async false
set_option linter.all false
set_option maxRecDepth 100000
set_option maxHeartbeats 2000000
/-! sorted(a set of texts) -/
namespace RM
open PySem PySem.Spec PyProof.Rows L2 PySem.Froz
/-! ### texts among values -/
def Text (v : Value) : Prop := ∃ k u, v = .str k u
theorem texts_are : ∀ {l : List Value}, (∀ v ∈ l, Text v) → StrsAre l (l.map strOf)
  | [], _ => .nil
  | _ :: _, h => by
    obtain ⟨h1, h2⟩ := List.forall_mem_cons.mp h
    obtain ⟨k, u, rfl⟩ := h1
    exact .cons k u (texts_are h2)
/-- as many, and nothing lacks: the same -/
theorem perm_of_sub : ∀ {l m : List Str}, l.Nodup → (∀ k ∈ l, k ∈ m) → m.length ≤ l.length → m.Perm l
  | [], m, _, _, h => by rw [List.eq_nil_of_length_eq_zero (Nat.le_zero.mp h)]
  | a :: l, m, nd, sub, h => by
    have ha := sub a List.mem_cons_self
    have el := List.length_erase_of_mem ha
    have ep := List.length_pos_of_mem ha
    obtain ⟨na, nd⟩ := List.nodup_cons.mp nd
    refine (List.perm_cons_erase ha).trans ((perm_of_sub nd (fun k hk => ?_) ?_).cons a)
    · have ne : k ≠ a := by rintro rfl; exact na hk
      exact (List.mem_erase_of_ne ne).mpr (sub k (List.mem_cons_of_mem _ hk))
    · rw [List.length_cons] at h; omega
theorem Txs.values {P : Program} {w : World} {D : SD} {l : List Str} (F : Txs P w D l) {vs : List Value} (p : vs.Perm (D.1.toList.map (·.2))) : StrsAre vs (vs.map strOf) ∧ (vs.map strOf).Perm l := by
  have shape : ∀ {k : Str} {v : Value}, (strKind P w).is k v = true → ∃ u, v = .str k u := fun h => Value.isStrOf_shape h
  refine ⟨texts_are fun v hv => ?_, perm_of_sub F.nd (fun k hk => ?_) ?_⟩
  · obtain ⟨e, he, rfl⟩ := List.mem_map.mp (p.mem_iff.mp hv)
    obtain ⟨⟨k, h1, _⟩, _⟩ := F.ok.el e he
    exact ⟨k, shape h1⟩
  · obtain ⟨e, he, h1⟩ := (F.ok.mem k).mp hk
    obtain ⟨u, h2⟩ := shape h1
    exact List.mem_map.mpr ⟨.str k u, p.mem_iff.mpr (List.mem_map.mpr ⟨e, he, h2⟩), rfl⟩
  · rw [List.length_map, p.length_eq, List.length_map, Array.length_toList, F.ok.sz]
    exact Nat.le_refl _
/-! ### sorted, of whatever gives texts -/
section
variable {P : Program} {w : World} {A : Around} {E : Value → Shared → Prop} {s : Shared}
theorem sorted_texts {x : Value} {ks : List Str} {Q : Value → Shared → Prop} (few : ks.length ≤ 1000)
    (gives : wpAny (model P w) A.in1 (collect x) (fun vs s1 => StrsAre vs (vs.map strOf) ∧ (vs.map strOf).Perm ks ∧
      ∀ ys us h' c, StrsAre us ys → ys.Perm ks → sortedS ys = true → (∀ b o, s1.heap.get? b = some o → h'.get? b = some o) → h'.get? s1.heap.objs.size = some (seqObj "list" us.toArray c) → Q (.ref s1.heap.objs.size) { s1 with heap := h' }) E s) :
    wpAny (model P w) A (call (.builtin "sorted") [x]) Q E s := by
  refine Calls.call_function_entry kind_sorted plain_sorted entry_sorted (args_sorted1 _) ?_
  unfold Builtin.«sorted»
  refine wpAny_bind (m := checkCount "sorted" 1 1 _) (wpAny_pure (wpAny_bind (thn gives fun vs s1 z => ?_)))
  obtain ⟨hS, pk, q⟩ := z
  have sz : vs.length ≤ sizeLine := by
    have e := pk.length_eq
    rw [List.length_map] at e
    rw [e, sizeLine_eq]; omega
  refine wpAny_bind (wpAny_newList ?_ sz)
  have at_ : (s1.heap.push (seqObj "list" vs.toArray 0)).get? s1.heap.objs.size = some (seqObj "list" vs.toArray 0) := Heap.get?_push_size _ rfl
  refine wpAny_bind (wpAny_holding (wpAny_call_entry slot_list_sort ⟨_, at_, rfl⟩ entry_list_sort (list_sort_treeKAny strKind_oneLt at_ hS.keysOf (fun _ _ _ e => keyKind_strs (e ▸ hS)) sz fun st' hp hs => ⟨_, rfl, ?_⟩) (args_list_sort _)))
  obtain ⟨ys, h1, h2, h3⟩ := sorted_out_str hS hp hs
  obtain ⟨c, hc⟩ := sortedHeap_at (vs := vs) (out := (arrOf st').map (·.2)) at_
  refine wpAny_pure ⟨_, rfl, q ys _ _ c h1 (h2.trans pk) h3 (fun b o e => ?_) (by rw [Array.toArray_toList]; exact hc)⟩
  have lt := Heap.lt_size e
  rw [sortedHeap_old (Nat.ne_of_lt lt) (by rw [size_push']; exact Nat.lt_succ_of_lt lt)]
  exact Heap.get?_push_of_some _ e
end
def rSortX (P : Program) (w : World) : List V → Hp → VK → Prop := fun xs H Q => ∃ (a : Addr) (l : List Str), xs = [V.ref a] ∧ H a = some (SetX P w a l) ∧ l.length ≤ 1000 ∧
  ∀ (ks : List Str) (p : Addr), ks.Perm l → l.Nodup → sortedS ks = true → H p = none → Q (.ref p) (upd H p (.lst (ks.map V.str)))
theorem cr_sortX {X : Cx} (hc : X.calm = true) : CallR X (.builtin "sorted") (rSortX X.prog X.w) := by
  rintro pins s σ H xs us Q I r ⟨a, l, rfl, e, few, q⟩
  rw [Vals.ref1 r]
  obtain ⟨D, ho, F⟩ := Txs.of I e
  refine sorted_texts few (collect_set (A := X.A.in1) (es := D.1) (ep := D.2.1) (t := D.2.2) (I.ok.hd hc) ⟨_, ho, rfl, rfl⟩ F.ok.fit (by rw [F.ok.sz]; exact F.few) F.wk.1 F.wk.2 fun s1 vs keep _ gs os pm => ?_)
  obtain ⟨t1, t2⟩ := F.values pm
  refine ⟨t1, t2, fun ys us' h' c h1 h2 h3 keep' at_ => ?_⟩
  have I1 : Inv X pins σ H s1 := I.call' (ch := []) os (Un.kept keep) (I.hok.kept keep) (by rw [gs]; exact I.bare) (fun _ z => nomatch z)
  have sz : (ys.map V.str).length ≤ sizeLine := by rw [List.length_map, h2.length_eq, sizeLine_eq]; omega
  exact ⟨.ref s1.heap.objs.size, _, I1.laid (t' := s1.toks) (o := .lst (ys.map V.str)) keep' (Nat.le_refl _) ⟨sz, us', c, vals_of_strs h1, at_⟩, rfl, q ys _ h2 F.nd h3 (I1.hok.fresh (Nat.le_refl _))⟩
end RM

set_option Elab.async false
set_option linter.all false
set_option maxRecDepth 100000
set_option maxHeartbeats 4000000
/-! set(a list of texts) -/
namespace RM
open PySem PySem.Spec PyProof.Rows L2 PySem.Froz
/-- the texts r put to l, one after another -/
def pour : List Str → List Str → List Str
  | [], l => l
  | k :: r, l => pour r (insX k l)
theorem pour_mem {k : Str} : ∀ {r l : List Str}, k ∈ pour r l ↔ k ∈ r ∨ k ∈ l
  | [], l => by simp [pour]
  | a :: r, l => by rw [pour, pour_mem, insX_mem, List.mem_cons]; grind
theorem pour_len : ∀ {r l : List Str}, (pour r l).length ≤ r.length + l.length
  | [], l => by simp [pour]
  | a :: r, l => by
    have := pour_len (r := r) (l := insX a l)
    have := insX_len (k := a) (l := l)
    rw [pour, List.length_cons]
    omega
section
variable {P : Program} {w : World} {A : Around} {R : Result → Shared → Prop} {I S : Addr} {s : Shared}
/-- one turn of the builtin's loop -/
theorem loop_turn (h : wpAny (model P w) A.in1 (pyNext (.ref I)) (fun r s1 => match r with
      | none => R (.ok (.ret .none)) s1
      | some v => wpAny (model P w) A.in1 (setAdd S v) (fun _ s2 => codeAny (model P w) A (.builtin "set.update.loop" ⟨[.ref S, .ref I], []⟩) R s2) (fun e s' => R (.error e) s') s1) (fun e s' => R (.error e) s') s) :
    codeAny (model P w) A (.builtin "set.update.loop" ⟨[.ref S, .ref I], []⟩) R s := by
  refine codeAny_builtin F.entry_set_update_loop ?_
  rw [Around.under_plainId F.plain_set_update_loop _]
  show wpAny _ A.in1 (pyNext (.ref I) >>= _) _ _ s
  refine wpAny_bind (wpAny_mono h (fun r s1 z => ?_) fun _ _ z => z)
  match r, z with
  | none, z => exact wpAny_pure z
  | some v, z => exact wpAny_bind (wpAny_holding (wpAny_mono z (fun _ _ y => wpAny_pure ⟨plainId_quiet F.plain_set_update_loop _, y⟩) fun _ _ y => y))
variable {fp wr : List Addr} {G : Array GenState → Array GenState → Prop} {n : Nat} {Pv : Nat → Value → Prop} {St : Nat → Shared → Prop}
theorem loop_x (W : WalksS P w A.in1 I fp wr G n Pv St) (hS : S ∉ fp) {zs : List Str} (hn : n = zs.length) (hv : ∀ i v, Pv i v → ∃ k u, zs[i]? = some k ∧ v = .str k u) :
    ∀ (r : List Str) (i : Nat) (l : List Str) (s : Shared), zs.drop i = r → i ≤ zs.length → St i s → SX P w s.heap S l → l.length + r.length < scanBound →
      (∀ s', Moved (S :: wr) G s s' → SX P w s'.heap S (pour r l) → R (.ok (.ret .none)) s') → codeAny (model P w) A (.builtin "set.update.loop" ⟨[.ref S, .ref I], []⟩) R s := by
  have out : S ∉ wr := fun h => hS (W.sub _ h)
  have more : ∀ b ∈ wr, b ∈ S :: wr := fun _ hb => List.mem_cons_of_mem _ hb
  intro r
  induction r with
  | nil =>
    intro i l s hd hi st sx _ q
    have e : i = n := by have := List.drop_eq_nil_iff.mp hd; omega
    subst e
    refine loop_turn (W.done s _ _ st fun s1 mv => ?_)
    exact q s1 (mv.mono more) (sx.at fun o e => mv.heap S o out e)
  | cons z r ih =>
    intro i l s hd hi st sx room q
    rw [List.length_cons] at room
    have lt : i < n := by
      have := congrArg List.length hd
      rw [List.length_drop, List.length_cons] at this
      omega
    have hz : zs[i]? = some z := by rw [← List.head?_drop, hd]; rfl
    have hd' : zs.drop (i + 1) = r := by rw [← List.tail_drop, hd]; rfl
    refine loop_turn (W.item i s _ _ lt st fun v s1 hp st1 mv => ?_)
    obtain ⟨k, u, hk, rfl⟩ := hv i v hp
    obtain rfl : z = k := by rw [hz] at hk; exact Option.some.inj hk
    refine setAdd_x (sx.at fun o e => mv.heap S o out e) (by omega) fun _ h' sb sx2 => ?_
    have ne : ∀ b ∈ fp, b ≠ S := fun b hb e => hS (e ▸ hb)
    refine ih (i + 1) _ _ hd' (by omega) (W.frame _ s1 _ _ st1 (Nat.le_succ _) fun b hb o e => by rw [sb.2 b (ne b hb)]; exact e) sx2 (by have := insX_len (k := z) (l := l); omega) fun s2 mv2 sx3 => ?_
    refine q s2 (Moved.trans W.gtrans ((mv.mono more).then_heap (Nat.le_succ _) fun b o hb e => ?_) mv2) sx3
    rw [sb.2 b fun e => hb (e ▸ List.mem_cons_self)]
    exact e
end
section
variable {P : Program} {w : World} {A : Around} {E : Value → Shared → Prop} {s : Shared} {S l : Addr} {items : Array Value} {zs : List Str}
/-- the values of a list of texts, place by place -/
theorem text_at (ht : StrsAre items.toList zs) {i : Nat} {v : Value} (e : items[i]? = some v) : ∃ k u, zs[i]? = some k ∧ v = .str k u := by
  rw [← Array.getElem?_toList] at e
  obtain ⟨k, u, rfl⟩ := ht.all v (List.mem_of_getElem? e)
  refine ⟨k, u, ?_, rfl⟩
  rw [← ht.strs, List.getElem?_map, e]
  rfl
theorem no_set {a : Addr} {Q : Bool → Shared → Prop} (ty : s.TypeIs (.ref a) "list") (q : Q false s) : wpAny (model P w) A (Builtin.Frozenset.isAnySet (.ref a)) Q E s := by
  unfold Builtin.Frozenset.isAnySet
  refine wpAny_bind (wpAny_isInstance ty F.sub_list_set ?_)
  exact wpAny_isInstance ty F.sub_list_frozenset q
/-- an empty set is filled from a list of texts -/
theorem update_x {name : String} {Q : Unit → Shared → Prop} (hh : A.handled = none) (hS : s.heap.get? S = some (bareX w)) (hl : s.heap.IsList l items) (ht : StrsAre items.toList zs) (room : zs.length < scanBound)
    (q : ∀ s', (∀ b o, b ≠ S → s.heap.get? b = some o → s'.heap.get? b = some o) → s'.gens = s.gens → s'.drawn = s.drawn → s'.os = s.os → SX P w s'.heap S (pour zs []) → Q () s') :
    wpAny (model P w) A (Builtin.Frozenset.updateFrom name S (.ref l)) Q E s := by
  have sz : items.size = zs.length := by rw [← Array.length_toList]; exact ht.length
  have ltS := Heap.lt_size hS
  have ty : s.TypeIs (.ref l) "list" := let ⟨_, e, c, _⟩ := hl; ⟨_, e, c⟩
  have ltl : l < s.heap.objs.size := let ⟨_, e, _⟩ := hl; Heap.lt_size e
  have neSl : S ≠ l := by
    rintro rfl
    obtain ⟨o, ho, hcl, _⟩ := hl
    rw [hS] at ho
    cases ho
    exact absurd (show Value.type "set" = Value.type "list" from hcl) (by decide)
  unfold Builtin.Frozenset.updateFrom
  refine wpAny_bind (no_set ty ?_)
  rw [if_neg Bool.false_ne_true]
  refine wpAny_bind (wpAny_typeOf ty ?_)
  rw [if_neg (by decide)]
  refine wpAny_bind (wpAny_pyIter_list hl (wpAny_bind (wpAny_runValue ?_)))
  have W := (Walks.list (prog := P) (w := w) (A := A.in1) (by simp [hh]) s.heap.objs.size l (Nat.ne_of_lt ltl) items).toS
  refine loop_x W ?_ sz (fun i v e => text_at ht e) zs 0 [] _ rfl (Nat.zero_le _) ⟨⟨_, Heap.get?_push_size _ rfl, rfl, rfl⟩, hl.push _⟩ (sx_fresh (Heap.get?_push_of_some _ hS)) (by simp; omega) fun s' mv sx => ?_
  · simp only [List.mem_cons, List.not_mem_nil, or_false, not_or]
    exact ⟨Nat.ne_of_lt ltS, neSl⟩
  · refine wpAny_pure (q s' (fun b o ne e => mv.heap b o ?_ (Heap.get?_push_of_some _ e)) mv.gens mv.drawn mv.os sx)
    simp only [List.mem_cons, List.not_mem_nil, or_false, not_or]
    exact ⟨ne, Nat.ne_of_lt (Heap.lt_size e)⟩
theorem init_x {Q : PySem.Fin → Shared → Prop} (hh : A.handled = none) (hS : s.heap.get? S = some (bareX w)) (hl : s.heap.IsList l items) (ht : StrsAre items.toList zs) (room : zs.length < scanBound)
    (q : ∀ s', (∀ b o, b ≠ S → s.heap.get? b = some o → s'.heap.get? b = some o) → s'.gens = s.gens → s'.drawn = s.drawn → s'.os = s.os → SX P w s'.heap S (pour zs []) → Q (.done (.ret .none)) s') :
    wpAny (model P w) A (Builtin.«set.__init__» ⟨[.ref S, .ref l], []⟩) Q E s := by
  have ty : s.TypeIs (.ref S) "set" := ⟨_, hS, rfl⟩
  unfold Builtin.«set.__init__» noKeywords
  generalize hU : @Builtin.Frozenset.updateFrom = U
  wp_walk
  subst hU
  refine update_x hh hS hl ht room fun s' k1 k2 k3 k4 sx => ?_
  exact wpAny_pure (q s' k1 k2 k3 k4 sx)
/-- what `set(l)` hands back -/
theorem call_set_x {Q : Value → Shared → Prop} (hh : A.handled = none) (hl : s.heap.IsList l items) (ht : StrsAre items.toList zs) (room : zs.length < scanBound)
    (q : ∀ s', (∀ b o, s.heap.get? b = some o → s'.heap.get? b = some o) → s'.gens = s.gens → s'.drawn = s.drawn → s'.os = s.os → SX P w s'.heap s.heap.objs.size (pour zs []) → Q (.ref s.heap.objs.size) s') :
    wpAny (model P w) A (call (.type "set") [.ref l]) Q E s := by
  obtain ⟨_, _, line⟩ := F.called_set.mro
  have maker := F.called_set.made
  have below := F.called_set.sub
  have plain := F.called_set.notType
  have can := F.called_set.canCreate
  have count := F.typeCall_set_1 (.ref l)
  refine wpAny_call (codeAny_of_tree (wpAny_pure ⟨Code.quiet_builtin _ (by decide +kernel), codeAny_builtin F.entry_type_call ?_⟩))
  rw [Around.under_plain (weight_type_call_type "set" [.ref l] []) rfl]
  repeat (any_goals (first | assumption | wp_step))
  refine codeAny_mono (code_set_led1 (.ref l) (E := E) (Q₁ := fun v s1 => v = .ref s.heap.objs.size ∧ s1 = { s with heap := s.heap.push (bareX w) }) ⟨rfl, rfl⟩) fun r s1 z => ?_
  match r, z with
  | .error _, z => exact z
  | .ok .next, z => exact z.elim
  | .ok .brk, z => exact z.elim
  | .ok .cont, z => exact z.elim
  | .ok (.ret _), z =>
  obtain ⟨rfl, rfl⟩ := z
  have hS : (s.heap.push (bareX w)).get? s.heap.objs.size = some (bareX w) := Heap.get?_push_size _ rfl
  have ty : Shared.TypeIs { s with heap := s.heap.push (bareX w) } (.ref s.heap.objs.size) "set" := ⟨_, hS, rfl⟩
  have first := F.called_set.init.lookup
  have bound := F.called_set.init.bind (.ref s.heap.objs.size)
  repeat (any_goals (first | assumption | wp_step))
  refine codeAny_mono (codeAny_call_builtin (R := wants (fun v s2 => v = .none ∧ Q (.ref s.heap.objs.size) s2) E) F.called_set.init.plain F.entry_set_init (check_set_init_1 ty ?_)) fun r s2 z => ?_
  · refine init_x ?_ hS (hl.push _) ht room fun s2 k1 k2 k3 k4 sx => ⟨rfl, q s2 (fun b o e => k1 b o (Nat.ne_of_lt (Heap.lt_size e)) (Heap.get?_push_of_some _ e)) k2 k3 k4 sx⟩
    simp [hh]
  · match r, z with
    | .error _, z => exact z
    | .ok .next, z => exact z.elim
    | .ok .brk, z => exact z.elim
    | .ok .cont, z => exact z.elim
    | .ok (.ret _), z =>
    obtain ⟨rfl, qq⟩ := z
    repeat (any_goals (first | assumption | wp_step))
end
/-! ### over the tracked heap -/
def rSetL (P : Program) (w : World) (K : PySem.W.Frag) : List V → Hp → VK → Prop := fun xs H Q => ∃ (a : Addr) (zs : List Str), xs = [V.ref a] ∧ SqL K H a (zs.map V.str) ∧ zs.length + 1 < scanBound ∧
  ∀ (l : List Str) (p : Addr), l.length ≤ zs.length → (∀ k, k ∈ l ↔ k ∈ zs) → H p = none → Q (.ref p) (upd H p (SetX P w p l))
theorem cr_setL {X : Cx} (hc : X.calm = true) : CallR X (.type "set") (rSetL X.prog X.w X.K) := by
  rintro pins s σ H xs us Q I r ⟨a, zs, rfl, hs, hb, q⟩
  rw [Vals.ref1 r]
  obtain ⟨its, rv, hl, hz⟩ := I.list hs
  refine call_set_x (I.ok.hd hc) hl.isList (show StrsAre its.toArray.toList zs from rv.strs) (by omega) fun s' k1 k2 k3 k4 sx => ?_
  obtain ⟨h', _, _, t', _⟩ := s'
  cases k2
  cases k3
  cases k4
  have len := pour_len (r := zs) (l := [])
  exact ⟨.ref s.heap.objs.size, _, I.laid (t' := t') k1 (Nat.le_refl _) (setX_new sx), rfl, q _ _ (by simpa using len) (fun k => by rw [pour_mem]; simp) (I.hok.fresh (Nat.le_refl _))⟩
end RM

set_option Elab.async false
set_option linter.all false
set_option maxRecDepth 100000
set_option maxHeartbeats 2000000
/-! own == of instances -/
namespace RM
open PySem PySem.Spec PyProof.Rows L2
section
variable (P : Program) (w : World) (K : PySem.W.Frag) (mg : Str → Option Value) (base : Heap)
/-- an own special method, met by an operator -/
def Own (k : Nat) (C : Addr) (m : Str) (sp : Sp) : Prop :=
  ∃ (f : Addr) (fd : FuncData) (ps : List Str), FnOk P w K mg base CX0 k f fd ps sp ∧ PySem.W.findIn K (.ref C) m = some (some (.ref f)) ∧ PySem.W.isFn K (.ref f) = true ∧ Binds K fd ps []
end
section
variable {P : Program} {w : World} {K : PySem.W.Frag} {mg : Str → Option Value} {base : Heap} {k : Nat} {m x : Str} {C : Addr} {sp : Sp}
theorem own_0 {qual : Str} {st : Stmt} {N ps : List Str} (F : ∃ fd, FunD K m qual (defArgs st) (defBody st) (defScope st) [] [] (He.ma K (He.ga K x) m) fd) (hs : spcB K x m = true) (S : FnScope N ps (defScope st))
    (hb : ∀ (kV doc pm : Value) (an : Option Addr) (cdv ct : Value) (us : List Value), us.length = ps.length → bindArgs (PySem.W.fnOf m qual (defArgs st) (defBody st) (defScope st) .none kV doc pm an cdv ct) ⟨us, []⟩ = pure (ps.zip us))
    (len : ∀ vs H Q E, sp vs H Q E → vs.length = ps.length) (h : Body0 P w K mg base N qual st (He.ma K (He.ga K x) m) k sp) : Own P w K mg base (k + 1) (He.ga K x) m sp :=
  let ⟨fd, F⟩ := F
  ⟨_, fd, ps, fn_0 F S len h, (spcB_ok hs).1, (spcB_ok hs).2, F.bindsN hb⟩
end
theorem room64 {k : Nat} {A : Around} (hr : Room k A) : A.units + 64 < cLine := by have := hr.un; omega
theorem not_ni {z : V} {u : Value} (r : RelV z u) : u ≠ .notImplemented := by
  intro e
  subst e
  cases z <;> simp [L2.RelV] at r
/-- x == y, the two of one own class -/
def rOwn (C : Addr) (sp : Sp) : R2 := fun x y H Q => ∃ a b dx dy fs gs, x = .ref a ∧ y = .ref b ∧ H a = some (.ins C dx fs) ∧ H b = some (.ins C dy gs) ∧ sp [x, y] H Q E0
section
variable {X : Cx} {k j : Nat} {C : Addr} {sp : Sp}
/-- a def called with what stands for vs -/
theorem ask_def {f : Addr} {fd : FuncData} {ps : List Str} {pins : List (Addr × Obj)} {σ : L2.St} {H : Hp} {s : Shared} {vs : List V} {us : List Value} {Q : VK} (F : FnOk X.prog X.w X.K X.mg X.base CX0 k f fd ps sp) (B : Binds X.K fd ps []) (hr : Room k X.A)
    (I : Inv X pins σ H s) (r : Vals vs us) (same : us.length = vs.length) (h : sp vs H Q E0) : wpAny (model X.prog X.w) X.A (call (.ref f) us) (EP X pins σ Q) X.xe s := by
  have given := B s us I.kIn
  rw [List.append_nil] at given
  refine wpAny_call (codeAny_mono (F.run X.A X.stack s H ⟨us, []⟩ us vs _ E0 hr I.env0 (given (same.trans (F.len _ _ _ _ h))) r h) fun out s1 z => ?_)
  match out, z with
  | .ok (.ret _), z => exact I.after z
  | .error _, z => exact pass0 pins σ H s _ s1 I z
  | .ok .next, z => exact z.elim
  | .ok .brk, z => exact z.elim
  | .ok .cont, z => exact z.elim
theorem op_ownEq (c : Own X.prog X.w X.K X.mg X.base k C "__eq__" sp) (hr : Room j X.A) (hk : k ≤ j := by omega) : OpR X (compareOp .Eq) (rOwn C sp) := by
  rintro pins s σ H _ _ v u Q I rx ry ⟨a, b, dx, dy, fs, gs, rfl, rfl, ha, hb, hsp⟩
  obtain ⟨f, fd, ps, F, hs, hf, B⟩ := c
  cases rx
  cases ry
  obtain ⟨_, ia, _⟩ := ins_get I.hok ha
  obtain ⟨_, ib, _⟩ := ins_get I.hok hb
  obtain ⟨_, la, _⟩ := ia.look
  obtain ⟨_, lb, _⟩ := ib.look
  have un := (hr.mono hk).un
  refine PySem.W.cmp_K (op := .Eq) (tb := .ref C) (by omega) I.fr.choose_spec I.ok.mod.kin la lb.type (by simp [PySem.W.notFirst]) hs hf (thn (ask_def (vs := [.ref a, .ref b]) F B (hr.mono hk) I (.cons rfl (.cons rfl .nil)) rfl hsp) fun r s1 z => ?_)
  obtain ⟨z, H1, I1, rz, q⟩ := z
  have some := not_ni rz
  cases r <;> first | exact absurd rfl some | exact ⟨z, H1, I1, rz, q⟩
end
/-- a sequence as it stands in a block -/
theorem pi_seqA' {X : Cx} {K : PySem.W.Frag} {tg l : Expr} {tl : TE} (hK : X.K = K) (hl : PE X l tl) : PI X tg l (iSeqA K tl) := by subst hK; exact pi_seqA hl
end RM

set_option Elab.async false
set_option linter.all false
set_option maxRecDepth 100000
set_option maxHeartbeats 2000000
/-! own + of two own classes -/
namespace RM
open PySem PySem.Spec PyProof.Rows L2
section
open PySem.W
variable {M : Model} {h : Heap} {K : Frag} {C f : Addr} {nm : String} {r : Option Value}
/-- the class's slot is a def -/
theorem slot_def (X : K.In h) (hs : findIn K (.ref C) (PySem.dunder nm) = some (some (.ref f))) (hr : findIn K (.ref C) (dunderR nm) = some r) (rr : r = none ∨ ∃ g, r = some (.ref g)) : Looks M h (numberSlotInPython (.ref C) nm) true := by
  intro A Q E s k q
  unfold numberSlotInPython
  refine wpAny_bind (looks_findIn X hs A _ E s k ?_)
  refine wpAny_bind (wpAny_pure ?_)
  refine wpAny_bind (looks_findIn X hr A _ E s k ?_)
  rcases rr with rfl | ⟨g, rfl⟩
  · exact wpAny_bind (wpAny_pure (by rw [if_pos (by rfl)]; exact wpAny_pure q))
  · exact wpAny_bind (wpAny_pure (by rw [if_pos (by rfl)]; exact wpAny_pure q))
theorem self_first (hc : selfFirst K C = true) : ∃ cd rest, clsIn K C = some cd ∧ cd.mro = .ref C :: rest := by
  unfold selfFirst at hc
  cases e : clsIn K C with
  | none => rw [e] at hc; cases hc
  | some cd =>
    rw [e] at hc
    cases q : cd.mro with
    | nil => simp [q] at hc
    | cons a r =>
      have : a = .ref C := by simpa [q] using hc
      exact ⟨cd, r, rfl, by rw [q, this]⟩
theorem binop_two {prog : Program} {w : World} {A : Around} {E : Value → Shared → Prop} {s : Shared} {x L D fD : Addr} {h₀ : Heap} {m : Str → Option Value} {ox : Obj} {od : Option Obj} {b : Value} {rC rD : Option Value} {Q : Value → Shared → Prop}
    (F : Fr h₀ L s.heap m) (X₀ : K.In h₀) (I : InstAt s.heap x ox C od) (hb : Looks (model prog w) s.heap (typeOf b) (.ref D)) (hne : D ≠ C) (hc : selfFirst K C = true) (hd : selfFirst K D = true) (hs : findIn K (.ref C) (PySem.dunder "add") = some (some (.ref f)))
    (hf : isFn K (.ref f) = true) (hsD : findIn K (.ref D) (PySem.dunder "add") = some (some (.ref fD))) (hrC : findIn K (.ref C) (dunderR "add") = some rC) (hrD : findIn K (.ref D) (dunderR "add") = some rD) (rC' : rC = none ∨ ∃ g, rC = some (.ref g)) (rD' : rD = none ∨ ∃ g, rD = some (.ref g))
    (sub : subIn K (.ref D) (.ref C) = some false) (h : wpAny (model prog w) A (call (.ref f) [.ref x, b]) (PySem.W.CmpBack Q) E s) : wpAny (model prog w) A (binaryOp .Add (.ref x) b) Q E s := by
  have X := X₀.keeps F.keep
  obtain ⟨cd, rest, hcd, hm⟩ := self_first hc
  obtain ⟨dd, rest2, hdd, hm2⟩ := self_first hd
  unfold binaryOp
  refine wpAny_holding (wpAny_bind ?_)
  unfold binaryOp1
  refine wpAny_bind (I.type.here (wpAny_bind (hb.here (wpAny_bind ((fills_K X hcd hm hs).here ?_)))))
  have nb : (Value.ref C == Value.ref D) = false := by simpa using fun e => hne e.symm
  simp only [nb, Bool.false_eq_true, if_false]
  refine wpAny_bind ((fills_K X hdd hm2 hsD).here ?_)
  simp only [Bool.and_self, if_true]
  refine wpAny_bind ((looks_subIn X sub).here ?_)
  simp only [Bool.false_eq_true, if_false, Bool.not_false, Bool.and_self, if_true]
  refine wpAny_bind ((slot_def X hs hrC rC').here ?_)
  simp only [if_true]
  refine wpAny_bind ((slot_def X hsD hrD rD').here ?_)
  simp only [Bool.not_true, Bool.false_eq_true, if_false]
  refine wpAny_bind (m := tryMethod (.ref x) _ b) ?_
  unfold tryMethod
  refine wpAny_bind (special_fn X I hs (beq_iff_eq.mp hf) (wpAny_mono h (fun v s' hv => ?_) fun _ _ e => e))
  cases v <;> first | exact hv.elim | exact wpAny_pure (wpAny_pure (wpAny_pure hv))
end
/-- what the head tells for x + y, x of the class at C, y of the one at D -/
def twoB (K : PySem.W.Frag) (x y : Str) : Bool :=
  let C := He.ga K x; let D := He.ga K y
  PySem.W.selfFirst K C && (PySem.W.selfFirst K D && (decide (D ≠ C) && (spcB K x "__add__" && (spcB K y "__add__" && (decide (PySem.W.subIn K (.ref D) (.ref C) = some false) &&
    ((He.eqO (PySem.W.findIn K (.ref C) "__radd__") (some none) || spcB K x "__radd__") && (He.eqO (PySem.W.findIn K (.ref D) "__radd__") (some none) || spcB K y "__radd__")))))))
/-- x + y, two own classes; E: what is wanted of an exception -/
def rAddX (C D : Addr) (sp : Sp) (E : XK) : R2 := fun x y H Q => ∃ a b dx dy fs gs, x = .ref a ∧ y = .ref b ∧ H a = some (.ins C dx fs) ∧ H b = some (.ins D dy gs) ∧ sp [x, y] H Q E
/-- an own special method that may raise -/
def OwnX (P : Program) (w : World) (K : PySem.W.Frag) (mg : Str → Option Value) (base : Heap) (k : Nat) (C : Addr) (m : Str) (sp : Sp) : Prop :=
  ∃ (f : Addr) (fd : FuncData) (ps : List Str), FnOk P w K mg base (L2.CX P w) k f fd ps sp ∧ PySem.W.findIn K (.ref C) m = some (some (.ref f)) ∧ PySem.W.isFn K (.ref f) = true ∧ Binds K fd ps []
theorem own_X {P : Program} {w : World} {K : PySem.W.Frag} {mg : Str → Option Value} {base : Heap} {k : Nat} {m x : Str} {sp : Sp} {qual : Str} {st : Stmt} {N ps : List Str} (F : ∃ fd, FunD K m qual (defArgs st) (defBody st) (defScope st) [] [] (He.ma K (He.ga K x) m) fd) (hs : spcB K x m = true) (S : FnScope N ps (defScope st))
    (hb : ∀ (kV doc pm : Value) (an : Option Addr) (cdv ct : Value) (us : List Value), us.length = ps.length → bindArgs (PySem.W.fnOf m qual (defArgs st) (defBody st) (defScope st) .none kV doc pm an cdv ct) ⟨us, []⟩ = pure (ps.zip us))
    (len : ∀ vs H Q E, sp vs H Q E → vs.length = ps.length) (h : BodyX P w K mg base N qual st (He.ma K (He.ga K x) m) k sp) : OwnX P w K mg base (k + 1) (He.ga K x) m sp :=
  let ⟨fd, F⟩ := F
  ⟨_, fd, ps, F.ok S len h, (spcB_ok hs).1, (spcB_ok hs).2, F.bindsN hb⟩
theorem radd_of {K : PySem.W.Frag} {x : Str} (h : (He.eqO (PySem.W.findIn K (.ref (He.ga K x)) "__radd__") (some none) || spcB K x "__radd__") = true) :
    ∃ r, PySem.W.findIn K (.ref (He.ga K x)) (dunderR "add") = some r ∧ (r = none ∨ ∃ g, r = some (.ref g)) := by
  rcases Bool.or_eq_true_iff.mp h with h | h
  · exact ⟨none, He.eqO_ok h, .inl rfl⟩
  · exact ⟨_, (spcB_ok h).1, .inr ⟨_, rfl⟩⟩
theorem op_addX {X : Cx} {k j : Nat} {x y : Str} {sp : Sp} {E : XK} (two : twoB X.K x y = true) (c : OwnX X.prog X.w X.K X.mg X.base k (He.ga X.K x) "__add__" sp) (hx : Passes (L2.CX X.prog X.w) X E) (hr : Room j X.A) (hk : k ≤ j := by omega) :
    OpR X (binaryOp .Add) (rAddX (He.ga X.K x) (He.ga X.K y) sp E) := by
  rintro pins s σ H _ _ v u Q I rx ry ⟨a, b, dx, dy, fs, gs, rfl, rfl, ha, hb, hsp⟩
  obtain ⟨f, fd, ps, F, hs, hf, B⟩ := c
  obtain ⟨t1, two⟩ := He.ba two
  obtain ⟨t2, two⟩ := He.ba two
  obtain ⟨t3, two⟩ := He.ba two
  obtain ⟨t4, two⟩ := He.ba two
  obtain ⟨t5, two⟩ := He.ba two
  obtain ⟨t6, two⟩ := He.ba two
  obtain ⟨t7, t8⟩ := He.ba two
  obtain ⟨rC, hrC, kC⟩ := radd_of t7
  obtain ⟨rD, hrD, kD⟩ := radd_of t8
  cases rx
  cases ry
  obtain ⟨_, ia, _⟩ := ins_get I.hok ha
  obtain ⟨_, ib, _⟩ := ins_get I.hok hb
  obtain ⟨_, la, _⟩ := ia.look
  obtain ⟨_, lb, _⟩ := ib.look
  refine binop_two I.fr.choose_spec I.ok.mod.kin la lb.type (of_decide_eq_true t3) t1 t2 hs hf (spcB_ok t5).1 hrC hrD kC kD (of_decide_eq_true t6) ?_
  refine thn (run_fn (vs := [.ref a, .ref b]) (dvs := []) (ds := []) F (hr.mono hk) B .nil hx I (.cons rfl (.cons rfl .nil)) hsp) fun r s1 z => ?_
  obtain ⟨z, H1, I1, rz, q⟩ := z
  have some := not_ni rz
  cases r <;> first | exact absurd rfl some | exact ⟨z, H1, I1, rz, q⟩
end RM

set_option Elab.async false
set_option linter.all false
set_option maxRecDepth 100000
set_option maxHeartbeats 2000000
/-! own special methods: in, [], len, +=, [] =, + of one class -/
namespace RM
open PySem PySem.Spec PyProof.Rows L2
section
variable (P : Program) (w : World) (K : PySem.W.Frag) (mg : Str → Option Value) (base : Heap) (CX : CXT)
/-- an own special method, whatever it lets out -/
def OwnC (k : Nat) (C : Addr) (m : Str) (sp : Sp) : Prop :=
  ∃ (f : Addr) (fd : FuncData) (ps : List Str), FnOk P w K mg base CX k f fd ps sp ∧ PySem.W.findIn K (.ref C) m = some (some (.ref f)) ∧ PySem.W.isFn K (.ref f) = true ∧ Binds K fd ps [] ∧ PySem.W.fnIn K f = true
end
section
variable {P : Program} {w : World} {K : PySem.W.Frag} {mg : Str → Option Value} {base : Heap} {k : Nat} {m x : Str} {C : Addr} {sp : Sp} {CX : CXT}
theorem fn_in {q : Str} {ar : Arguments} {bd : List Stmt} {sc : Scope} {dv : List V} {kw : List (Str × V)} {f : Addr} {fd : FuncData} (F : FunD K m q ar bd sc dv kw f fd) : PySem.W.fnIn K f = true := by
  obtain ⟨_, _, _, _, _, _, _, _, _, _, _, lk, _⟩ := F.ex
  unfold PySem.W.fnIn
  rw [lk]
theorem own_C0 {qual : Str} {st : Stmt} {N ps : List Str} (F : ∃ fd, FunD K m qual (defArgs st) (defBody st) (defScope st) [] [] (He.ma K (He.ga K x) m) fd) (hs : spcB K x m = true) (S : FnScope N ps (defScope st))
    (hb : ∀ (kV doc pm : Value) (an : Option Addr) (cdv ct : Value) (us : List Value), us.length = ps.length → bindArgs (PySem.W.fnOf m qual (defArgs st) (defBody st) (defScope st) .none kV doc pm an cdv ct) ⟨us, []⟩ = pure (ps.zip us))
    (len : ∀ vs H Q E, sp vs H Q E → vs.length = ps.length) (h : Body0 P w K mg base N qual st (He.ma K (He.ga K x) m) k sp) : OwnC P w K mg base CX0 (k + 1) (He.ga K x) m sp :=
  let ⟨fd, F⟩ := F
  ⟨_, fd, ps, fn_0 F S len h, (spcB_ok hs).1, (spcB_ok hs).2, F.bindsN hb, fn_in F⟩
theorem own_CX {qual : Str} {st : Stmt} {N ps : List Str} (F : ∃ fd, FunD K m qual (defArgs st) (defBody st) (defScope st) [] [] (He.ma K (He.ga K x) m) fd) (hs : spcB K x m = true) (S : FnScope N ps (defScope st))
    (hb : ∀ (kV doc pm : Value) (an : Option Addr) (cdv ct : Value) (us : List Value), us.length = ps.length → bindArgs (PySem.W.fnOf m qual (defArgs st) (defBody st) (defScope st) .none kV doc pm an cdv ct) ⟨us, []⟩ = pure (ps.zip us))
    (len : ∀ vs H Q E, sp vs H Q E → vs.length = ps.length) (h : BodyX P w K mg base N qual st (He.ma K (He.ga K x) m) k sp) : OwnC P w K mg base (L2.CX P w) (k + 1) (He.ga K x) m sp :=
  let ⟨fd, F⟩ := F
  ⟨_, fd, ps, F.ok S len h, (spcB_ok hs).1, (spcB_ok hs).2, F.bindsN hb, fn_in F⟩
/-- nothing is let out where nothing is wished of it -/
theorem fn_calm {f : Addr} {fd : FuncData} {ps : List Str} (F : FnOk P w K mg base (L2.CX P w) k f fd ps sp) : FnOk P w K mg base CX0 k f fd ps (fun vs H Q _ => sp vs H Q E0) := by
  refine ⟨fun vs H Q E h => F.len vs H Q E0 h, fun A outer s H args us vs Q E hr e0 hb r h => ?_⟩
  refine codeAny_mono (F.run A outer s H args us vs Q E0 hr e0 hb r h) fun out s1 z => ?_
  match out, z with
  | .ok (.ret _), z => exact z
  | .ok .next, z => exact z
  | .ok .brk, z => exact z
  | .ok .cont, z => exact z
  | .error e, z =>
    obtain ⟨_, _, _, _, _, _, _, _, _, _, _, _, no⟩ := z
    exact no.elim
theorem Cal.calm {x : Str} (c : Cal P w K mg base (L2.CX P w) k x sp) : Cal P w K mg base CX0 k x (fun vs H Q _ => sp vs H Q E0) := let ⟨f, fd, ps, F, a, b, d⟩ := c; ⟨f, fd, ps, fn_calm F, a, b, d⟩
theorem Met.calm (c : Met P w K mg base (L2.CX P w) k C m sp) : Met P w K mg base CX0 k C m (fun vs H Q _ => sp vs H Q E0) := let ⟨f, fd, ps, a, b, F, d⟩ := c; ⟨f, fd, ps, a, b, fn_calm F, d⟩
theorem Mak.calm {x : Str} (c : Mak P w K mg base (L2.CX P w) k x C sp) : Mak P w K mg base CX0 k x C (fun vs H Q _ => sp vs H Q E0) := let ⟨f, fd, ps, a, F, b, d⟩ := c; ⟨f, fd, ps, a, fn_calm F, b, d⟩
theorem OwnC.calm (c : OwnC P w K mg base (L2.CX P w) k C m sp) : OwnC P w K mg base CX0 k C m (fun vs H Q _ => sp vs H Q E0) := let ⟨f, fd, ps, F, a⟩ := c; ⟨f, fd, ps, fn_calm F, a⟩
theorem OwnX.calm (c : OwnX P w K mg base k C m sp) : Own P w K mg base k C m (fun vs H Q _ => sp vs H Q E0) := let ⟨f, fd, ps, F, a⟩ := c; ⟨f, fd, ps, fn_calm F, a⟩
end
section
variable {X : Cx} {CX : CXT} {k j : Nat} {C : Addr} {sp : Sp} {E : XK}
/-- a def called one level in -/
theorem ask_in1 {f : Addr} {fd : FuncData} {ps : List Str} {pins : List (Addr × Obj)} {σ : L2.St} {H : Hp} {s : Shared} {vs : List V} {us : List Value} {Q : VK} (F : FnOk X.prog X.w X.K X.mg X.base CX k f fd ps sp) (B : Binds X.K fd ps []) (hr : Room (k + 1) X.A) (hx : Passes CX X E)
    (I : Inv X pins σ H s) (r : Vals vs us) (h : sp vs H Q E) : wpAny (model X.prog X.w) X.A.in1 (call (.ref f) us) (EP X pins σ Q) X.xe s := by
  have len : us.length = ps.length := by rw [← r.length]; exact F.len _ _ _ _ h
  have given := B s us I.kIn (by rw [List.append_nil]; exact len)
  rw [List.append_nil] at given
  refine wpAny_call (codeAny_mono (F.run X.A.in1 X.stack s H ⟨us, []⟩ us vs Q E hr.in1 I.env0.in1 given r h) fun out s1 z => ?_)
  match out, z with
  | .ok (.ret _), z => exact I.after z
  | .error e, z => exact hx pins σ H s e s1 I z
  | .ok .next, z => exact z.elim
  | .ok .brk, z => exact z.elim
  | .ok .cont, z => exact z.elim
/-- x in y, y of an own class -/
def rInO (C : Addr) (sp : Sp) (E : XK) (neg : Bool) : R2 := fun x y H Q => ∃ b dy gs, y = .ref b ∧ H b = some (.ins C dy gs) ∧ sp [y, x] H (fun v H' => ∃ c, v = .bl c ∧ Q (.bl (if neg then !c else c)) H') E
theorem op_inO (c : OwnC X.prog X.w X.K X.mg X.base CX k C "__contains__" sp) (hx : Passes CX X E) (hr : Room j X.A) (hk : k ≤ j := by omega) : OpR X (compareOp .In) (rInO C sp E false) := by
  rintro pins s σ H x _ v u Q I rx ry ⟨b, dy, gs, rfl, hb, h⟩
  obtain ⟨f, fd, ps, F, hs, hf, B, _⟩ := c
  cases ry
  obtain ⟨_, ib, _⟩ := ins_get I.hok hb
  obtain ⟨_, lb, _⟩ := ib.look
  refine PySem.W.in_K I.fr.choose_spec I.ok.mod.kin lb hs hf (thn (run_fn (vs := [.ref b, x]) (dvs := []) (ds := []) F (hr.mono hk) B .nil hx I (.cons rfl (.cons rx .nil)) h) fun r s1 z => ?_)
  obtain ⟨_, H1, I1, rz, c, rfl, q⟩ := z
  cases rz
  exact wpAny_truthy_bool ⟨.bl c, H1, I1, rfl, q⟩
theorem op_ninO (c : OwnC X.prog X.w X.K X.mg X.base CX k C "__contains__" sp) (hx : Passes CX X E) (hr : Room j X.A) (hk : k ≤ j := by omega) : OpR X (compareOp .NotIn) (rInO C sp E true) := by
  rintro pins s σ H x _ v u Q I rx ry ⟨b, dy, gs, rfl, hb, h⟩
  obtain ⟨f, fd, ps, F, hs, hf, B, _⟩ := c
  cases ry
  obtain ⟨_, ib, _⟩ := ins_get I.hok hb
  obtain ⟨_, lb, _⟩ := ib.look
  refine PySem.W.notIn_K I.fr.choose_spec I.ok.mod.kin lb hs hf (thn (run_fn (vs := [.ref b, x]) (dvs := []) (ds := []) F (hr.mono hk) B .nil hx I (.cons rfl (.cons rx .nil)) h) fun r s1 z => ?_)
  obtain ⟨_, H1, I1, rz, c, rfl, q⟩ := z
  cases rz
  exact wpAny_truthy_bool ⟨.bl (!c), H1, I1, rfl, q⟩
/-- a[b], a of an own class -/
def tGetO (C : Addr) (sp : Sp) (E : XK) (ta tb : TE) : TE := fun σ H Q => ta σ H fun x H1 => tb σ H1 fun y H2 => ∃ a dx fs, x = .ref a ∧ H2 a = some (.ins C dx fs) ∧ sp [x, y] H2 Q E
theorem pe_getO {a b : Expr} {ta tb : TE} {pos : Pos} (c : OwnC X.prog X.w X.K X.mg X.base CX k C "__getitem__" sp) (hx : Passes CX X E) (hr : Room j X.A) (ha : PE X a ta) (hb : PE X b tb) (hk : k + 1 ≤ j := by omega)
    (hsl : ∀ v u, subscripted b true v u = runValue (.builtin "lifetime.subscript" ⟨[v, u], []⟩) := by intro _ _; rfl) : PE X (.Subscript a b pos) (tGetO C sp E ta tb) := by
  obtain ⟨f, fd, ps, F, hs, hf, B, hn⟩ := c
  refine ⟨fun pins s σ H Q I h => ?_⟩
  refine Subscript_ (thn (ha.run pins s σ H _ I h) fun v s1 ⟨x, H1, I1, rx, h1⟩ => thn (hb.run pins s1 σ H1 _ I1 h1) fun u s2 ⟨y, H2, I2, ry, h2⟩ => ?_)
  obtain ⟨p, dx, fs, rfl, hp, h3⟩ := h2
  cases rx
  obtain ⟨_, ip, _⟩ := ins_get I2.hok hp
  obtain ⟨_, lp, _⟩ := ip.look
  exact PySem.W.sub_K I2.fr.choose_spec I2.ok.mod.kin lp hs hn hf (ask_in1 (vs := [.ref p, y]) F B (hr.mono hk) hx I2 (.cons rfl (.cons ry .nil)) h3) (hsl _ _)
/-- len(x), x of an own class -/
theorem call_lenO (c : OwnC X.prog X.w X.K X.mg X.base CX k C "__len__" sp) (hx : Passes CX X E) (hr : Room j X.A) (hk : k + 1 ≤ j := by omega) :
    CallR X (.builtin "len") (fun xs H Q => ∃ a dx fs, xs = [.ref a] ∧ H a = some (.ins C dx fs) ∧ sp [.ref a] H (fun v H' => ∃ n : Int, v = .int n ∧ 0 ≤ n ∧ n < 2 ^ 63 ∧ Q (.int n) H') E) := by
  rintro pins s σ H xs us Q I r ⟨a, dx, fs, rfl, ha, h⟩
  obtain ⟨f, fd, ps, F, hs, hf, B, _⟩ := c
  obtain rfl := Vals.ref1 r
  obtain ⟨_, ia, _⟩ := ins_get I.hok ha
  obtain ⟨_, la, _⟩ := ia.look
  refine PySem.W.len_K I.fr.choose_spec I.ok.mod.kin la hs hf (thn (ask_in1 (vs := [.ref a]) F B (hr.mono hk) hx I (.cons rfl .nil) h) fun r s1 z => ?_)
  obtain ⟨_, H1, I1, rz, n, rfl, n0, n1, q⟩ := z
  obtain ⟨t, rfl⟩ := rz
  exact ⟨⟨n0, n1⟩, .int n, H1, I1.tok _, ⟨_, rfl⟩, q⟩
/-- x += y, x of an own class -/
def rIadO (C : Addr) (sp : Sp) (E : XK) : R2 := fun x y H Q => ∃ a dx fs, x = .ref a ∧ H a = some (.ins C dx fs) ∧ sp [x, y] H Q E
theorem in_addO (c : OwnC X.prog X.w X.K X.mg X.base CX k C "__iadd__" sp) (sf : PySem.W.selfFirst X.K C = true) (hx : Passes CX X E) (hr : Room j X.A) (hk : k ≤ j := by omega) : InOp X .Add (rIadO C sp E) := by
  rintro pins s σ H _ y u v Q I rx ry ⟨a, dx, fs, rfl, ha, h⟩
  obtain ⟨f, fd, ps, F, hs, hf, B, _⟩ := c
  cases rx
  obtain ⟨_, ia, _⟩ := ins_get I.hok ha
  obtain ⟨_, la, _⟩ := ia.look
  refine PySem.W.ksp_inplace I.fr.choose_spec I.ok.mod.kin la sf hs hf (thn (run_fn (vs := [.ref a, y]) (dvs := []) (ds := []) F (hr.mono hk) B .nil hx I (.cons rfl (.cons ry .nil)) h) fun r s1 z => ?_)
  obtain ⟨z, H1, I1, rz, q⟩ := z
  have some := not_ni rz
  cases r <;> first | exact absurd rfl some | exact ⟨z, H1, I1, rz, q⟩
/-- x + y, both of one own class -/
def rAddS (C : Addr) (sp : Sp) (E : XK) : R2 := fun x y H Q => ∃ a b dx dy fs gs, x = .ref a ∧ y = .ref b ∧ H a = some (.ins C dx fs) ∧ H b = some (.ins C dy gs) ∧ sp [x, y] H Q E
theorem op_addS (c : OwnC X.prog X.w X.K X.mg X.base CX k C "__add__" sp) (sf : PySem.W.selfFirst X.K C = true) (hx : Passes CX X E) (hr : Room j X.A) (hk : k ≤ j := by omega) : OpR X (binaryOp .Add) (rAddS C sp E) := by
  rintro pins s σ H _ _ v u Q I rx ry ⟨a, b, dx, dy, fs, gs, rfl, rfl, ha, hb, h⟩
  obtain ⟨f, fd, ps, F, hs, hf, B, _⟩ := c
  cases rx
  cases ry
  obtain ⟨_, ia, _⟩ := ins_get I.hok ha
  obtain ⟨_, ib, _⟩ := ins_get I.hok hb
  obtain ⟨_, la, _⟩ := ia.look
  obtain ⟨_, lb, _⟩ := ib.look
  refine PySem.W.binop_K I.fr.choose_spec I.ok.mod.kin la lb.type sf hs hf (thn (run_fn (vs := [.ref a, .ref b]) (dvs := []) (ds := []) F (hr.mono hk) B .nil hx I (.cons rfl (.cons rfl .nil)) h) fun r s1 z => ?_)
  obtain ⟨z, H1, I1, rz, q⟩ := z
  have some := not_ni rz
  cases r <;> first | exact absurd rfl some | exact ⟨z, H1, I1, rz, q⟩
end
theorem two_first {K : PySem.W.Frag} {x y : Str} (h : twoB K x y = true) : PySem.W.selfFirst K (He.ga K x) = true ∧ PySem.W.selfFirst K (He.ga K y) = true := let ⟨a, b⟩ := He.ba h; ⟨a, (He.ba b).1⟩
theorem op_addG {X : Cx} {CX : CXT} {k j : Nat} {x y : Str} {sp : Sp} {E : XK} (two : twoB X.K x y = true) (c : ∃ (f : Addr) (fd : FuncData) (ps : List Str), FnOk X.prog X.w X.K X.mg X.base CX k f fd ps sp ∧ PySem.W.findIn X.K (.ref (He.ga X.K x)) "__add__" = some (some (.ref f)) ∧ PySem.W.isFn X.K (.ref f) = true ∧ Binds X.K fd ps []) (hx : Passes CX X E) (hr : Room j X.A) (hk : k ≤ j := by omega) :
    OpR X (binaryOp .Add) (rAddX (He.ga X.K x) (He.ga X.K y) sp E) := by
  rintro pins s σ H _ _ v u Q I rx ry ⟨a, b, dx, dy, fs, gs, rfl, rfl, ha, hb, hsp⟩
  obtain ⟨f, fd, ps, F, hs, hf, B⟩ := c
  obtain ⟨t1, two⟩ := He.ba two
  obtain ⟨t2, two⟩ := He.ba two
  obtain ⟨t3, two⟩ := He.ba two
  obtain ⟨t4, two⟩ := He.ba two
  obtain ⟨t5, two⟩ := He.ba two
  obtain ⟨t6, two⟩ := He.ba two
  obtain ⟨t7, t8⟩ := He.ba two
  obtain ⟨rC, hrC, kC⟩ := radd_of t7
  obtain ⟨rD, hrD, kD⟩ := radd_of t8
  cases rx
  cases ry
  obtain ⟨_, ia, _⟩ := ins_get I.hok ha
  obtain ⟨_, ib, _⟩ := ins_get I.hok hb
  obtain ⟨_, la, _⟩ := ia.look
  obtain ⟨_, lb, _⟩ := ib.look
  refine binop_two I.fr.choose_spec I.ok.mod.kin la lb.type (of_decide_eq_true t3) t1 t2 hs hf (spcB_ok t5).1 hrC hrD kC kD (of_decide_eq_true t6) ?_
  refine thn (run_fn (vs := [.ref a, .ref b]) (dvs := []) (ds := []) F (hr.mono hk) B .nil hx I (.cons rfl (.cons rfl .nil)) hsp) fun r s1 z => ?_
  obtain ⟨z, H1, I1, rz, q⟩ := z
  have some := not_ni rz
  cases r <;> first | exact absurd rfl some | exact ⟨z, H1, I1, rz, q⟩
end RM

set_option Elab.async false
set_option linter.all false
set_option maxRecDepth 100000
set_option maxHeartbeats 2000000
/-! x != y of an own class with == alone -/
namespace RM
open PySem PySem.Spec PyProof.Rows L2
section
open PySem.W
variable {prog : Program} {w : World} {A : Around} {E : Value → Shared → Prop} {s : Shared} {K : Frag} {x y C L f : Addr} {h₀ : Heap} {m : Str → Option Value} {ox : Obj} {od : Option Obj}
theorem check_ne {M : Model} {Q : Unit → Shared → Prop} (X : K.In s.heap) (I : InstAt s.heap x ox C od) (hsub : subIn K (.ref C) (.type "object") = some true) {b : Value} (hq : Q () s) :
    wpAny M A (checkBuiltinCall "object.__ne__" ⟨[.ref x, b], []⟩) Q E s := by
  have ha := F.cmpArgs_ne (.ref x) b
  simp only [checkBuiltinCall, F.cmpKind_ne, F.cmpSplit_ne]
  refine wpAny_bind ?_
  simp only [isInstance]
  refine wpAny_bind (I.type.here ((looks_subIn X hsub).here ?_))
  simp only [Bool.not_true, Bool.false_eq_true, if_false]
  cases hsig : Manifest.signature? "object.__ne__" with
  | none => exact wpAny_pure hq
  | some sig =>
    simp only [argsOk, hsig] at ha
    have h2 : Bind.checkArgs "object.__ne__" sig ⟨[.ref x, b], []⟩ = pure () := ha
    show wpAny M A (Bind.checkArgs "object.__ne__" sig ⟨[.ref x, b], []⟩) Q E _
    rw [h2]
    exact wpAny_pure hq
theorem objNe_own {Q : Fin → Shared → Prop} (X : K.In s.heap) (I : InstAt s.heap x ox C od) (he : findIn K (.ref C) "__eq__" = some (some (.ref f))) (hf : isFn K (.ref f) = true) (hu : A.units < cLine)
    (h : wpAny (model prog w) A (call (.ref f) [.ref x, .ref y]) (fun v s' => ∃ b, v = .bool b ∧ Q (.done (.ret (.bool (!b)))) s') E s) : wpAny (model prog w) A (Builtin.«object.__ne__» ⟨[.ref x, .ref y], []⟩) Q E s := by
  unfold Builtin.«object.__ne__»
  repeat (first
    | with_reducible refine wpAny_cRoomFor hu ?_
    | (refine wpAny_bind (m := callSpecialIfBound? (.ref x) (Str.ofString "__eq__") [.ref y]) (ifBound_K X I he hf (wpAny_mono h (fun r s' hr => by
          obtain ⟨b, rfl, hq⟩ := hr
          repeat (first | exact hq | exact wpAny_pure hq | exact wpAny_truthy_bool hq | (refine wpAny_bind (m := truthy (.bool _)) (wpAny_truthy_bool ?_)) | wp_step)) fun _ _ e => e)))
    | wp_step)
theorem ifBound_ne {Q : Option Value → Shared → Prop} (X : K.In s.heap) (I : InstAt s.heap x ox C od) (hs : findIn K (.ref C) "__ne__" = some (some (.builtin "object.__ne__")))
    (h : wpAny (model prog w) A (call (.builtin "object.__ne__") [.ref x, .ref y]) (fun v => Q (some v)) E s) : wpAny (model prog w) A (callSpecialIfBound? (.ref x) "__ne__" [.ref y]) Q E s := by
  simp only [callSpecialIfBound?, bindSpecialIfBound?]
  refine wpAny_holding (wpAny_bind (wpAny_bind (wpAny_bind (I.type.here ((looks_findIn X hs).here ?_)))))
  simp only [F.cmp_object.ne.bind]
  refine wpAny_bind (wpAny_askSetting (wpAny_ite ?_))
  have fin : wpAny (model prog w) A (call (.builtin "object.__ne__") ([.ref x] ++ [.ref y]) >>= fun v => pure (some v)) Q E s := wpAny_bind (wpAny_mono h (fun v s' h' => wpAny_pure h') fun _ _ h' => h')
  split
  · exact wpAny_bind (wpAny_pure (wpAny_pure (by exact fin)))
  · exact wpAny_tryCatch (wpAny_bind (wpAny_pure (wpAny_pure (by exact fin))))
theorem cmp_ne {Q : Value → Shared → Prop} (hu : A.units + 1 < cLine) (F : Fr h₀ L s.heap m) (X₀ : K.In h₀) (I : InstAt s.heap x ox C od) (hb : Looks (model prog w) s.heap (typeOf (.ref y)) (.ref C))
    (hs : findIn K (.ref C) "__ne__" = some (some (.builtin "object.__ne__"))) (he : findIn K (.ref C) "__eq__" = some (some (.ref f))) (hf : isFn K (.ref f) = true) (hsub : subIn K (.ref C) (.type "object") = some true)
    (h : wpAny (model prog w) A.in1 (call (.ref f) [.ref x, .ref y]) (fun v s' => ∃ b, v = .bool b ∧ Q (.bool (!b)) s') E s) : wpAny (model prog w) A (compareOp .NotEq (.ref x) (.ref y)) Q E s := by
  have X := X₀.keeps F.keep
  have one : wpAny (model prog w) A (tryCompare (.ref x) "__ne__" (.ref y)) (fun r s' => ∃ v, r = some v ∧ Q v s') E s := by
    unfold tryCompare
    refine wpAny_bind (ifBound_ne X I hs (wpAny_call (codeAny_call_builtin PySem.F.cmp_object.ne.plain PySem.F.cmpEntry_ne (check_ne X I hsub (objNe_own (A := A.in1) X I he hf hu (wpAny_mono h (fun v s' hv => ?_) fun _ _ e => e))))))
    obtain ⟨b, rfl, hq⟩ := hv
    first | exact ⟨b, rfl, wpAny_pure ⟨_, rfl, hq⟩⟩ | exact wpAny_pure ⟨_, rfl, hq⟩ | exact ⟨_, rfl, hq⟩
  unfold compareOp
  unfold richCompare
  simp only [oneThing_ref]
  refine wpAny_holding (wpAny_bind (wpAny_cRoomFor (Nat.lt_of_succ_lt hu) ?_))
  rw [cmpInfo_NotEq]
  dsimp only
  refine wpAny_bind (I.type.here (wpAny_bind (hb.here ?_)))
  rw [show (Value.ref C != Value.ref C) = false from by simp]
  simp only [Bool.false_eq_true, if_false]
  refine wpAny_bind (wpAny_pure ?_)
  simp only [Bool.false_eq_true, if_false]
  refine wpAny_bind (wpAny_mono one (fun r s' z => ?_) fun _ _ e => e)
  obtain ⟨v, rfl, hq⟩ := z
  exact wpAny_pure hq
end
def neB (K : PySem.W.Frag) (x : Str) : Bool := He.eqO (PySem.W.findIn K (.ref (He.ga K x)) "__ne__") (some (some (.builtin "object.__ne__"))) && decide (PySem.W.subIn K (.ref (He.ga K x)) (.type "object") = some true)
theorem neB_ok {K : PySem.W.Frag} {x : Str} (h : neB K x = true) : PySem.W.findIn K (.ref (He.ga K x)) "__ne__" = some (some (.builtin "object.__ne__")) ∧ PySem.W.subIn K (.ref (He.ga K x)) (.type "object") = some true :=
  let ⟨a, b⟩ := He.ba h
  ⟨He.eqO_ok a, of_decide_eq_true b⟩
/-- x != y, the two of one own class with == -/
def rOwnNe (C : Addr) (sp : Sp) : R2 := fun x y H Q => ∃ a b dx dy fs gs, x = .ref a ∧ y = .ref b ∧ H a = some (.ins C dx fs) ∧ H b = some (.ins C dy gs) ∧ sp [x, y] H (fun v H' => ∃ c, v = .bl c ∧ Q (.bl (!c)) H') E0
theorem op_ownNe {X : Cx} {k j : Nat} {x : Str} {sp : Sp} (n : neB X.K x = true) (c : Own X.prog X.w X.K X.mg X.base k (He.ga X.K x) "__eq__" sp) (hr : Room j X.A) (hk : k + 1 ≤ j := by omega) : OpR X (compareOp .NotEq) (rOwnNe (He.ga X.K x) sp) := by
  rintro pins s σ H _ _ v u Q I rx ry ⟨a, b, dx, dy, fs, gs, rfl, rfl, ha, hb, hsp⟩
  obtain ⟨f, fd, ps, F, hs, hf, B⟩ := c
  cases rx
  cases ry
  obtain ⟨_, ia, _⟩ := ins_get I.hok ha
  obtain ⟨_, ib, _⟩ := ins_get I.hok hb
  obtain ⟨_, la, _⟩ := ia.look
  obtain ⟨_, lb, _⟩ := ib.look
  have un := (hr.mono hk).un
  obtain ⟨n1, n2⟩ := neB_ok n
  refine cmp_ne (by omega) I.fr.choose_spec I.ok.mod.kin la lb.type n1 hs hf n2 (thn (ask_in1 (vs := [.ref a, .ref b]) F B (hr.mono hk) pass0 I (.cons rfl (.cons rfl .nil)) hsp) fun r s1 z => ?_)
  obtain ⟨z, H1, I1, rz, c, rfl, q⟩ := z
  cases rz
  exact ⟨c, rfl, .bl (!c), H1, I1, rfl, q⟩
end RM

set_option Elab.async false
set_option linter.all false
set_option maxRecDepth 100000
set_option maxHeartbeats 0
namespace RM
open PySem PySem.Spec PyProof.Rows L2
def top (i : Nat) : Stmt := PySem.Challenge.pw_readmoments_k20_texts_of_changes.main.body.getD i (.Pass ⟨0, 0, 0, 0⟩)
abbrev s_BadText_init : Stmt := inClass (top 3) 0
abbrev s_is_word : Stmt := top 9
abbrev s_is_value : Stmt := top 10
abbrev s_checked : Stmt := top 11
abbrev s_Change_init : Stmt := inClass (top 12) 0
abbrev s_Change_settings : Stmt := inClass (top 12) 1
abbrev s_Change_eq : Stmt := inClass (top 12) 2
abbrev s_Change_add : Stmt := inClass (top 12) 3
abbrev s_Change_contains : Stmt := inClass (top 12) 4
abbrev s_Change_len : Stmt := inClass (top 12) 5
abbrev s_Change_bool : Stmt := inClass (top 12) 6
abbrev s_number_of : Stmt := top 15
abbrev s_change_line : Stmt := top 16
abbrev s_write_changes : Stmt := top 17
abbrev s_change_of : Stmt := top 18
abbrev s_read_changes : Stmt := top 19
abbrev s_law_begin : Stmt := top 21
abbrev s_law_draw : Stmt := top 22
abbrev s_law_word_good : Stmt := top 23
abbrev s_law_line_good : Stmt := top 24
abbrev s_law_spoiled : Stmt := top 25
abbrev s_law : Stmt := top 26
def d_BadText_init : He.DefD := ⟨("BadText", some "__init__"), "__init__", "BadText.__init__", defArgs s_BadText_init, defBody s_BadText_init, defScope s_BadText_init, [], []⟩
def d_is_word : He.DefD := ⟨("is_word", none), "is_word", "is_word", defArgs s_is_word, defBody s_is_word, defScope s_is_word, [], []⟩
def d_is_value : He.DefD := ⟨("is_value", none), "is_value", "is_value", defArgs s_is_value, defBody s_is_value, defScope s_is_value, [], []⟩
def d_checked : He.DefD := ⟨("checked", none), "checked", "checked", defArgs s_checked, defBody s_checked, defScope s_checked, [], []⟩
def d_Change_init : He.DefD := ⟨("Change", some "__init__"), "__init__", "Change.__init__", defArgs s_Change_init, defBody s_Change_init, defScope s_Change_init, [], []⟩
def d_Change_settings : He.DefD := ⟨("Change", some "settings"), "settings", "Change.settings", defArgs s_Change_settings, defBody s_Change_settings, defScope s_Change_settings, [], []⟩
def d_Change_eq : He.DefD := ⟨("Change", some "__eq__"), "__eq__", "Change.__eq__", defArgs s_Change_eq, defBody s_Change_eq, defScope s_Change_eq, [], []⟩
def d_Change_add : He.DefD := ⟨("Change", some "__add__"), "__add__", "Change.__add__", defArgs s_Change_add, defBody s_Change_add, defScope s_Change_add, [], []⟩
def d_Change_contains : He.DefD := ⟨("Change", some "__contains__"), "__contains__", "Change.__contains__", defArgs s_Change_contains, defBody s_Change_contains, defScope s_Change_contains, [], []⟩
def d_Change_len : He.DefD := ⟨("Change", some "__len__"), "__len__", "Change.__len__", defArgs s_Change_len, defBody s_Change_len, defScope s_Change_len, [], []⟩
def d_Change_bool : He.DefD := ⟨("Change", some "__bool__"), "__bool__", "Change.__bool__", defArgs s_Change_bool, defBody s_Change_bool, defScope s_Change_bool, [], []⟩
def d_number_of : He.DefD := ⟨("number_of", none), "number_of", "number_of", defArgs s_number_of, defBody s_number_of, defScope s_number_of, [], []⟩
def d_change_line : He.DefD := ⟨("change_line", none), "change_line", "change_line", defArgs s_change_line, defBody s_change_line, defScope s_change_line, [], []⟩
def d_write_changes : He.DefD := ⟨("write_changes", none), "write_changes", "write_changes", defArgs s_write_changes, defBody s_write_changes, defScope s_write_changes, [], []⟩
def d_change_of : He.DefD := ⟨("change_of", none), "change_of", "change_of", defArgs s_change_of, defBody s_change_of, defScope s_change_of, [], []⟩
def d_read_changes : He.DefD := ⟨("read_changes", none), "read_changes", "read_changes", defArgs s_read_changes, defBody s_read_changes, defScope s_read_changes, [], []⟩
def d_law_begin : He.DefD := ⟨("_law_begin", none), "_law_begin", "_law_begin", defArgs s_law_begin, defBody s_law_begin, defScope s_law_begin, [], []⟩
def d_law_draw : He.DefD := ⟨("_law_draw", none), "_law_draw", "_law_draw", defArgs s_law_draw, defBody s_law_draw, defScope s_law_draw, [], []⟩
def d_law_word_good : He.DefD := ⟨("_law_word_good", none), "_law_word_good", "_law_word_good", defArgs s_law_word_good, defBody s_law_word_good, defScope s_law_word_good, [], []⟩
def d_law_line_good : He.DefD := ⟨("_law_line_good", none), "_law_line_good", "_law_line_good", defArgs s_law_line_good, defBody s_law_line_good, defScope s_law_line_good, [], []⟩
def d_law_spoiled : He.DefD := ⟨("_law_spoiled", none), "_law_spoiled", "_law_spoiled", defArgs s_law_spoiled, defBody s_law_spoiled, defScope s_law_spoiled, [], []⟩
def d_law : He.DefD := ⟨("law", none), "law", "law", defArgs s_law, defBody s_law, defScope s_law, [], []⟩
def fnL : List He.DefD := [d_BadText_init, d_is_word, d_is_value, d_checked, d_Change_init, d_Change_settings, d_Change_eq, d_Change_add, d_Change_contains, d_Change_len, d_Change_bool, d_number_of, d_change_line, d_write_changes, d_change_of, d_read_changes, d_law_begin, d_law_draw, d_law_word_good, d_law_line_good, d_law_spoiled, d_law]
def fa0 : List He.Fa := [.glo "is_word", .glo "is_value", .glo "checked", .glo "number_of", .glo "change_line", .glo "write_changes", .glo "change_of", .glo "read_changes", .glo "_law_begin", .glo "_law_draw", .glo "_law_word_good", .glo "_law_line_good", .glo "_law_spoiled", .glo "law", .glo "MomentError", .glo "BadValues", .glo "BadText", .glo "Change", .free "NotImplemented", .free "any", .free "bool", .free "dict", .free "enumerate", .free "int", .free "isinstance", .free "len", .free "list", .free "range", .free "sorted", .free "str"]
def fa1 : List He.Fa := [.str "LETTERS" "abcdefghijklmnopqrstuvwxyz", .int "LONGEST" 6, .int "GREATEST" 99, .int "MOST" 4, .str "FIGURES" "0123456789", .cls "Change", .mkr "Change", .meth "Change" "__init__", .meth "Change" "settings", .meth "Change" "__eq__", .meth "Change" "__add__", .meth "Change" "__contains__", .meth "Change" "__len__", .meth "Change" "__bool__", .noat "Change" "given", .exc "MomentError", .exc "BadValues", .meth "BadText" "__init__", .noat "BadText" "line", .exm "MomentError" "BadText" false, .exm "BadValues" "BadText" false, .exm "BadText" "BadText" true]
def faL : List He.Fa := fa0 ++ fa1
def tsL : List He.Tab := []
def exL : List (PySem.W.Frag → Bool) := [fun K => insB K "Change", fun K => kitC K "Change" "Change" true, fun K => spcB K "Change" "__eq__", fun K => spcB K "Change" "__add__", fun K => spcB K "Change" "__contains__", fun K => spcB K "Change" "__len__", fun K => spcB K "Change" "__bool__", fun K => oexB K (He.ga K "BadText"), fun K => xfB K (He.ga K "BadText"), fun K => neB K "Change"]
def exB (K : PySem.W.Frag) : Bool := exL.all fun f => f K
def nm0 : List PySem.Str := ["MomentError", "BadValues", "BadText", "LETTERS", "LONGEST", "GREATEST", "MOST", "is_word", "is_value", "checked", "Change", "FIGURES", "number_of", "change_line", "write_changes", "change_of", "read_changes", "_law_begin", "_law_draw", "_law_word_good", "_law_line_good", "_law_spoiled"]
def names : List PySem.Str := nm0
abbrev R : PySem.W.OpenRow := PySem.W.OpenLaw.row PySem.Challenge.rw_readmoments_k20_texts_of_changes
abbrev hk : PySem.W.Hook := He.hookX 5 faL fnL tsL [] exB
def ob (s : PySem.W.SharedT) : He.AlX := He.obsX 5 faL fnL tsL [] exB (HandSHeadRun.getT s)
theorem ob_eq (s : PySem.W.SharedT) : ob s = hk.obs s.abs := He.obsX_eq (HandSHeadRun.getT_eq s)
theorem run0 (w : World) : HandSHeadRun.RunEq R (PySem.W.view R.prog [26]) hk ob 9000 names (w.withFollow "special-get-raises" false) := by
  intro os
  kernel_rfl
theorem run1 (w : World) : HandSHeadRun.RunEq R (PySem.W.view R.prog [26]) hk ob 9000 names (w.withFollow "special-get-raises" true) := by
  intro os
  kernel_rfl
theorem run (w : World) : HandSHeadRun.RunEq R (PySem.W.view R.prog [26]) hk ob 9000 names w := PySem.W.byRow2 "special-get-raises" (P := fun w => HandSHeadRun.RunEq R (PySem.W.view R.prog [26]) hk ob 9000 names w) run0 run1 w
end RM

set_option Elab.async false
set_option linter.all false
set_option maxRecDepth 100000
set_option maxHeartbeats 2000000
namespace RM
open PySem PySem.Spec PyProof.Rows L2
/-- what the top has left -/
structure Top (w : World) (K : PySem.W.Frag) (mg : Str → Option Value) : Prop where
  h : ∃ hp : Heap, K.In hp ∧ hp.Ns mainGlobals mg ∧ He.SaysX faL fnL tsL [] exB w hp K
section
variable {w : World} {K : PySem.W.Frag} {mg : Str → Option Value}
theorem Top.fa (T : Top w K mg) (i : Nat) {f : He.Fa} (h : faL[i]? = some f) : f.ok K = true := let ⟨_, _, _, c⟩ := T.h; c.t.d.fact i h
theorem Top.fd (T : Top w K mg) (i : Nat) {d : He.DefD} (h : fnL[i]? = some d) : ∃ fd, FunD K d.name d.qual d.params d.body d.scope (d.dvs K) (d.kws K) (He.fAd K d.at_) fd := let ⟨_, _, _, c⟩ := T.h; c.t.d.def_ i h
theorem g_is_word (T : Top w K mg) : mg "is_word" = some (.ref (He.ga K "is_word")) := let ⟨_, X, G, _⟩ := T.h; He.glo_ok X G (T.fa 0 rfl)
theorem g_is_value (T : Top w K mg) : mg "is_value" = some (.ref (He.ga K "is_value")) := let ⟨_, X, G, _⟩ := T.h; He.glo_ok X G (T.fa 1 rfl)
theorem g_checked (T : Top w K mg) : mg "checked" = some (.ref (He.ga K "checked")) := let ⟨_, X, G, _⟩ := T.h; He.glo_ok X G (T.fa 2 rfl)
theorem g_number_of (T : Top w K mg) : mg "number_of" = some (.ref (He.ga K "number_of")) := let ⟨_, X, G, _⟩ := T.h; He.glo_ok X G (T.fa 3 rfl)
theorem g_change_line (T : Top w K mg) : mg "change_line" = some (.ref (He.ga K "change_line")) := let ⟨_, X, G, _⟩ := T.h; He.glo_ok X G (T.fa 4 rfl)
theorem g_write_changes (T : Top w K mg) : mg "write_changes" = some (.ref (He.ga K "write_changes")) := let ⟨_, X, G, _⟩ := T.h; He.glo_ok X G (T.fa 5 rfl)
theorem g_change_of (T : Top w K mg) : mg "change_of" = some (.ref (He.ga K "change_of")) := let ⟨_, X, G, _⟩ := T.h; He.glo_ok X G (T.fa 6 rfl)
theorem g_read_changes (T : Top w K mg) : mg "read_changes" = some (.ref (He.ga K "read_changes")) := let ⟨_, X, G, _⟩ := T.h; He.glo_ok X G (T.fa 7 rfl)
theorem g_law_begin (T : Top w K mg) : mg "_law_begin" = some (.ref (He.ga K "_law_begin")) := let ⟨_, X, G, _⟩ := T.h; He.glo_ok X G (T.fa 8 rfl)
theorem g_law_draw (T : Top w K mg) : mg "_law_draw" = some (.ref (He.ga K "_law_draw")) := let ⟨_, X, G, _⟩ := T.h; He.glo_ok X G (T.fa 9 rfl)
theorem g_law_word_good (T : Top w K mg) : mg "_law_word_good" = some (.ref (He.ga K "_law_word_good")) := let ⟨_, X, G, _⟩ := T.h; He.glo_ok X G (T.fa 10 rfl)
theorem g_law_line_good (T : Top w K mg) : mg "_law_line_good" = some (.ref (He.ga K "_law_line_good")) := let ⟨_, X, G, _⟩ := T.h; He.glo_ok X G (T.fa 11 rfl)
theorem g_law_spoiled (T : Top w K mg) : mg "_law_spoiled" = some (.ref (He.ga K "_law_spoiled")) := let ⟨_, X, G, _⟩ := T.h; He.glo_ok X G (T.fa 12 rfl)
theorem g_law (T : Top w K mg) : mg "law" = some (.ref (He.ga K "law")) := let ⟨_, X, G, _⟩ := T.h; He.glo_ok X G (T.fa 13 rfl)
theorem g_MomentError (T : Top w K mg) : mg "MomentError" = some (.ref (He.ga K "MomentError")) := let ⟨_, X, G, _⟩ := T.h; He.glo_ok X G (T.fa 14 rfl)
theorem g_BadValues (T : Top w K mg) : mg "BadValues" = some (.ref (He.ga K "BadValues")) := let ⟨_, X, G, _⟩ := T.h; He.glo_ok X G (T.fa 15 rfl)
theorem g_BadText (T : Top w K mg) : mg "BadText" = some (.ref (He.ga K "BadText")) := let ⟨_, X, G, _⟩ := T.h; He.glo_ok X G (T.fa 16 rfl)
theorem g_Change (T : Top w K mg) : mg "Change" = some (.ref (He.ga K "Change")) := let ⟨_, X, G, _⟩ := T.h; He.glo_ok X G (T.fa 17 rfl)
theorem z_NotImplemented (T : Top w K mg) : mg "NotImplemented" = none := let ⟨_, X, G, _⟩ := T.h; He.free_ok X G (T.fa 18 rfl)
theorem z_any (T : Top w K mg) : mg "any" = none := let ⟨_, X, G, _⟩ := T.h; He.free_ok X G (T.fa 19 rfl)
theorem z_bool (T : Top w K mg) : mg "bool" = none := let ⟨_, X, G, _⟩ := T.h; He.free_ok X G (T.fa 20 rfl)
theorem z_dict (T : Top w K mg) : mg "dict" = none := let ⟨_, X, G, _⟩ := T.h; He.free_ok X G (T.fa 21 rfl)
theorem z_enumerate (T : Top w K mg) : mg "enumerate" = none := let ⟨_, X, G, _⟩ := T.h; He.free_ok X G (T.fa 22 rfl)
theorem z_int (T : Top w K mg) : mg "int" = none := let ⟨_, X, G, _⟩ := T.h; He.free_ok X G (T.fa 23 rfl)
theorem z_isinstance (T : Top w K mg) : mg "isinstance" = none := let ⟨_, X, G, _⟩ := T.h; He.free_ok X G (T.fa 24 rfl)
theorem z_len (T : Top w K mg) : mg "len" = none := let ⟨_, X, G, _⟩ := T.h; He.free_ok X G (T.fa 25 rfl)
theorem z_list (T : Top w K mg) : mg "list" = none := let ⟨_, X, G, _⟩ := T.h; He.free_ok X G (T.fa 26 rfl)
theorem z_range (T : Top w K mg) : mg "range" = none := let ⟨_, X, G, _⟩ := T.h; He.free_ok X G (T.fa 27 rfl)
theorem z_sorted (T : Top w K mg) : mg "sorted" = none := let ⟨_, X, G, _⟩ := T.h; He.free_ok X G (T.fa 28 rfl)
theorem z_str (T : Top w K mg) : mg "str" = none := let ⟨_, X, G, _⟩ := T.h; He.free_ok X G (T.fa 29 rfl)
theorem i_LETTERS (T : Top w K mg) : ∃ t, mg "LETTERS" = some (.str "abcdefghijklmnopqrstuvwxyz" t) := let ⟨_, X, G, _⟩ := T.h; He.str_ok X G (T.fa 30 rfl)
theorem i_LONGEST (T : Top w K mg) : ∃ t, mg "LONGEST" = some (.int 6 t) := let ⟨_, X, G, _⟩ := T.h; He.int_ok X G (T.fa 31 rfl)
theorem i_GREATEST (T : Top w K mg) : ∃ t, mg "GREATEST" = some (.int 99 t) := let ⟨_, X, G, _⟩ := T.h; He.int_ok X G (T.fa 32 rfl)
theorem i_MOST (T : Top w K mg) : ∃ t, mg "MOST" = some (.int 4 t) := let ⟨_, X, G, _⟩ := T.h; He.int_ok X G (T.fa 33 rfl)
theorem i_FIGURES (T : Top w K mg) : ∃ t, mg "FIGURES" = some (.str "0123456789" t) := let ⟨_, X, G, _⟩ := T.h; He.str_ok X G (T.fa 34 rfl)
theorem k_Change (T : Top w K mg) : Cls K (He.ga K "Change") := He.cls_ok (T.fa 35 rfl)
theorem mk_Change (T : Top w K mg) : Mk K (He.ga K "Change") (He.ma K (He.ga K "Change") "__init__") := He.mkr_ok (T.fa 36 rfl)
theorem me_Change_init (T : Top w K mg) : Meth K (He.ga K "Change") "__init__" (He.ma K (He.ga K "Change") "__init__") := He.meth_ok (T.fa 37 rfl)
theorem me_Change_settings (T : Top w K mg) : Meth K (He.ga K "Change") "settings" (He.ma K (He.ga K "Change") "settings") := He.meth_ok (T.fa 38 rfl)
theorem me_Change_eq (T : Top w K mg) : Meth K (He.ga K "Change") "__eq__" (He.ma K (He.ga K "Change") "__eq__") := He.meth_ok (T.fa 39 rfl)
theorem me_Change_add (T : Top w K mg) : Meth K (He.ga K "Change") "__add__" (He.ma K (He.ga K "Change") "__add__") := He.meth_ok (T.fa 40 rfl)
theorem me_Change_contains (T : Top w K mg) : Meth K (He.ga K "Change") "__contains__" (He.ma K (He.ga K "Change") "__contains__") := He.meth_ok (T.fa 41 rfl)
theorem me_Change_len (T : Top w K mg) : Meth K (He.ga K "Change") "__len__" (He.ma K (He.ga K "Change") "__len__") := He.meth_ok (T.fa 42 rfl)
theorem me_Change_bool (T : Top w K mg) : Meth K (He.ga K "Change") "__bool__" (He.ma K (He.ga K "Change") "__bool__") := He.meth_ok (T.fa 43 rfl)
theorem na_Change_given (T : Top w K mg) : NoAttr K (He.ga K "Change") "given" := He.noat_ok (T.fa 44 rfl)
theorem xc_MomentError (T : Top w K mg) : PySem.W.excIn K (He.ga K "MomentError") He.veBase "ValueError.__new__" = true ∧ PySem.W.keepIn K (.ref (He.ga K "MomentError")) = true ∧ PySem.W.subIn K (.ref (He.ga K "MomentError")) (.type "BaseException") = some true ∧ PySem.W.typeIn K (.ref (He.ga K "MomentError")) = some (.type "type") := He.exc_ok (T.fa 45 rfl)
theorem xc_BadValues (T : Top w K mg) : PySem.W.excIn K (He.ga K "BadValues") He.veBase "ValueError.__new__" = true ∧ PySem.W.keepIn K (.ref (He.ga K "BadValues")) = true ∧ PySem.W.subIn K (.ref (He.ga K "BadValues")) (.type "BaseException") = some true ∧ PySem.W.typeIn K (.ref (He.ga K "BadValues")) = some (.type "type") := He.exc_ok (T.fa 46 rfl)
theorem me_BadText_init (T : Top w K mg) : Meth K (He.ga K "BadText") "__init__" (He.ma K (He.ga K "BadText") "__init__") := He.meth_ok (T.fa 47 rfl)
theorem na_BadText_line (T : Top w K mg) : NoAttr K (He.ga K "BadText") "line" := He.noat_ok (T.fa 48 rfl)
theorem xm_MomentError_BadText (T : Top w K mg) : PySem.W.exmOne K (.ref (He.ga K "MomentError")) (.ref (He.ga K "BadText")) = some false := He.exm_ok (T.fa 49 rfl)
theorem xm_BadValues_BadText (T : Top w K mg) : PySem.W.exmOne K (.ref (He.ga K "BadValues")) (.ref (He.ga K "BadText")) = some false := He.exm_ok (T.fa 50 rfl)
theorem xm_BadText_BadText (T : Top w K mg) : PySem.W.exmOne K (.ref (He.ga K "BadText")) (.ref (He.ga K "BadText")) = some true := He.exm_ok (T.fa 51 rfl)
theorem f_BadText_init (T : Top w K mg) : ∃ fd, FunD K "__init__" "BadText.__init__" (defArgs s_BadText_init) (defBody s_BadText_init) (defScope s_BadText_init) [] [] (He.ma K (He.ga K "BadText") "__init__") fd := T.fd 0 (d := d_BadText_init) rfl
theorem f_is_word (T : Top w K mg) : ∃ fd, FunD K "is_word" "is_word" (defArgs s_is_word) (defBody s_is_word) (defScope s_is_word) [] [] (He.ga K "is_word") fd := T.fd 1 (d := d_is_word) rfl
theorem f_is_value (T : Top w K mg) : ∃ fd, FunD K "is_value" "is_value" (defArgs s_is_value) (defBody s_is_value) (defScope s_is_value) [] [] (He.ga K "is_value") fd := T.fd 2 (d := d_is_value) rfl
theorem f_checked (T : Top w K mg) : ∃ fd, FunD K "checked" "checked" (defArgs s_checked) (defBody s_checked) (defScope s_checked) [] [] (He.ga K "checked") fd := T.fd 3 (d := d_checked) rfl
theorem f_Change_init (T : Top w K mg) : ∃ fd, FunD K "__init__" "Change.__init__" (defArgs s_Change_init) (defBody s_Change_init) (defScope s_Change_init) [] [] (He.ma K (He.ga K "Change") "__init__") fd := T.fd 4 (d := d_Change_init) rfl
theorem f_Change_settings (T : Top w K mg) : ∃ fd, FunD K "settings" "Change.settings" (defArgs s_Change_settings) (defBody s_Change_settings) (defScope s_Change_settings) [] [] (He.ma K (He.ga K "Change") "settings") fd := T.fd 5 (d := d_Change_settings) rfl
theorem f_Change_eq (T : Top w K mg) : ∃ fd, FunD K "__eq__" "Change.__eq__" (defArgs s_Change_eq) (defBody s_Change_eq) (defScope s_Change_eq) [] [] (He.ma K (He.ga K "Change") "__eq__") fd := T.fd 6 (d := d_Change_eq) rfl
theorem f_Change_add (T : Top w K mg) : ∃ fd, FunD K "__add__" "Change.__add__" (defArgs s_Change_add) (defBody s_Change_add) (defScope s_Change_add) [] [] (He.ma K (He.ga K "Change") "__add__") fd := T.fd 7 (d := d_Change_add) rfl
theorem f_Change_contains (T : Top w K mg) : ∃ fd, FunD K "__contains__" "Change.__contains__" (defArgs s_Change_contains) (defBody s_Change_contains) (defScope s_Change_contains) [] [] (He.ma K (He.ga K "Change") "__contains__") fd := T.fd 8 (d := d_Change_contains) rfl
theorem f_Change_len (T : Top w K mg) : ∃ fd, FunD K "__len__" "Change.__len__" (defArgs s_Change_len) (defBody s_Change_len) (defScope s_Change_len) [] [] (He.ma K (He.ga K "Change") "__len__") fd := T.fd 9 (d := d_Change_len) rfl
theorem f_Change_bool (T : Top w K mg) : ∃ fd, FunD K "__bool__" "Change.__bool__" (defArgs s_Change_bool) (defBody s_Change_bool) (defScope s_Change_bool) [] [] (He.ma K (He.ga K "Change") "__bool__") fd := T.fd 10 (d := d_Change_bool) rfl
theorem f_number_of (T : Top w K mg) : ∃ fd, FunD K "number_of" "number_of" (defArgs s_number_of) (defBody s_number_of) (defScope s_number_of) [] [] (He.ga K "number_of") fd := T.fd 11 (d := d_number_of) rfl
theorem f_change_line (T : Top w K mg) : ∃ fd, FunD K "change_line" "change_line" (defArgs s_change_line) (defBody s_change_line) (defScope s_change_line) [] [] (He.ga K "change_line") fd := T.fd 12 (d := d_change_line) rfl
theorem f_write_changes (T : Top w K mg) : ∃ fd, FunD K "write_changes" "write_changes" (defArgs s_write_changes) (defBody s_write_changes) (defScope s_write_changes) [] [] (He.ga K "write_changes") fd := T.fd 13 (d := d_write_changes) rfl
theorem f_change_of (T : Top w K mg) : ∃ fd, FunD K "change_of" "change_of" (defArgs s_change_of) (defBody s_change_of) (defScope s_change_of) [] [] (He.ga K "change_of") fd := T.fd 14 (d := d_change_of) rfl
theorem f_read_changes (T : Top w K mg) : ∃ fd, FunD K "read_changes" "read_changes" (defArgs s_read_changes) (defBody s_read_changes) (defScope s_read_changes) [] [] (He.ga K "read_changes") fd := T.fd 15 (d := d_read_changes) rfl
theorem f_law_begin (T : Top w K mg) : ∃ fd, FunD K "_law_begin" "_law_begin" (defArgs s_law_begin) (defBody s_law_begin) (defScope s_law_begin) [] [] (He.ga K "_law_begin") fd := T.fd 16 (d := d_law_begin) rfl
theorem f_law_draw (T : Top w K mg) : ∃ fd, FunD K "_law_draw" "_law_draw" (defArgs s_law_draw) (defBody s_law_draw) (defScope s_law_draw) [] [] (He.ga K "_law_draw") fd := T.fd 17 (d := d_law_draw) rfl
theorem f_law_word_good (T : Top w K mg) : ∃ fd, FunD K "_law_word_good" "_law_word_good" (defArgs s_law_word_good) (defBody s_law_word_good) (defScope s_law_word_good) [] [] (He.ga K "_law_word_good") fd := T.fd 18 (d := d_law_word_good) rfl
theorem f_law_line_good (T : Top w K mg) : ∃ fd, FunD K "_law_line_good" "_law_line_good" (defArgs s_law_line_good) (defBody s_law_line_good) (defScope s_law_line_good) [] [] (He.ga K "_law_line_good") fd := T.fd 19 (d := d_law_line_good) rfl
theorem f_law_spoiled (T : Top w K mg) : ∃ fd, FunD K "_law_spoiled" "_law_spoiled" (defArgs s_law_spoiled) (defBody s_law_spoiled) (defScope s_law_spoiled) [] [] (He.ga K "_law_spoiled") fd := T.fd 20 (d := d_law_spoiled) rfl
theorem f_law (T : Top w K mg) : ∃ fd, FunD K "law" "law" (defArgs s_law) (defBody s_law) (defScope s_law) [] [] (He.ga K "law") fd := T.fd 21 (d := d_law) rfl
theorem Top.ex (T : Top w K mg) (i : Nat) {f : PySem.W.Frag → Bool} (h : exL[i]? = some f) : f K = true := let ⟨_, _, _, c⟩ := T.h; List.all_eq_true.mp c.more f (List.mem_of_getElem? h)
theorem ins_Change (T : Top w K mg) : insB K "Change" = true := T.ex 0 rfl
theorem kit_Change_Change (T : Top w K mg) : kitC K "Change" "Change" true = true := T.ex 1 rfl
theorem spc_Change_eq (T : Top w K mg) : spcB K "Change" "__eq__" = true := T.ex 2 rfl
theorem spc_Change_add (T : Top w K mg) : spcB K "Change" "__add__" = true := T.ex 3 rfl
theorem spc_Change_contains (T : Top w K mg) : spcB K "Change" "__contains__" = true := T.ex 4 rfl
theorem spc_Change_len (T : Top w K mg) : spcB K "Change" "__len__" = true := T.ex 5 rfl
theorem spc_Change_bool (T : Top w K mg) : spcB K "Change" "__bool__" = true := T.ex 6 rfl
theorem oex_BadText (T : Top w K mg) : oexB K (He.ga K "BadText") = true := T.ex 7 rfl
theorem xf_BadText (T : Top w K mg) : xfB K (He.ga K "BadText") = true := T.ex 8 rfl
theorem ne_Change (T : Top w K mg) : neB K "Change" = true := T.ex 9 rfl
end
end RM

set_option Elab.async false
set_option linter.all false
set_option maxRecDepth 100000
set_option maxHeartbeats 2000000
namespace RM
open PySem PySem.Spec PyProof.Rows L2
section
variable {P : Program} {w : World} {K : PySem.W.Frag} {mg : Str → Option Value} {base : Heap}
theorem sc_is_value : FnScope ["value"] ["value"] (defScope s_is_value) := ⟨rfl, rfl, rfl, by decide +kernel, rfl, by decide +kernel, by decide +kernel⟩
def spIsValue : Sp := fun vs H Q _ => match vs with
  | [x] => ∃ n, x = .int n ∧ Q (.bl (isValue n)) H
  | _ => False
/-- data that is no number -/
def noInt : PyData → Bool
  | .int _ => false
  | .dict _ => false
  | _ => true
def spIsValueG (K : PySem.W.Frag) : Sp := fun vs H Q E => spIsValue vs H Q E ∨ match vs with
  | [x] => ∃ d, Dp K H x d ∧ noInt d = true ∧ Q (.bl false) H
  | _ => False
theorem cg_is_value (T : Top w K mg) : Cal P w K mg base CX0 1 "is_value" (spIsValueG K) := by
  refine cal_0 (f_is_value T) (g_is_value T) sc_is_value (fun _ _ _ _ _ _ us hl => match us, hl with | [_], _ => rfl) (fun vs H Q E h => match vs, h with | [_], _ => rfl | [], .inl h => h.elim | [], .inr h => h.elim | _ :: _ :: _, .inl h => h.elim | _ :: _ :: _, .inr h => h.elim) (fun cdv A outer s H vs Q E hr h => ?_)
  match vs, h with
  | [x], h =>
  refine ⟨_, (pss_one (ps_ret (pe_and (pcb (z_isinstance T) call_isi boot_isinstance (pa_cons (pv 0) (pa_cons (pty (z_int T) boot_int) pa_nil))) (pe_and (pe_not (pcb (z_isinstance T) call_isi boot_isinstance (pa_cons (pv 0) (pa_cons (pty (z_bool T) boot_bool) pa_nil)))) (pe_one (pe_chain op_le op_le (pe_un un_neg (pglI (i_GREATEST T))) (pv 0) (pglI (i_GREATEST T)))))))), ?_⟩
  rcases h with h | ⟨d, hd, hn, q⟩
  case inr =>
    cases hd with
    | int i => cases hn
    | non => exact ⟨_, rfl, _, _, _, _, false, rfl, .ty _, .base .non, kit_ty (by decide +kernel), _, rfl, iteF q⟩
    | str z => exact ⟨_, rfl, _, _, _, _, false, rfl, .ty _, .base (.str z), kit_ty (by decide +kernel), _, rfl, iteF q⟩
    | lst h1 _ => exact ⟨_, rfl, _, _, _, _, false, rfl, .ty _, tyL h1, kit_ty (by decide +kernel), _, rfl, iteF q⟩
    | tup h1 _ => exact ⟨_, rfl, _, _, _, _, false, rfl, .ty _, tyT h1, kit_ty (by decide +kernel), _, rfl, iteF q⟩
    | bl b =>
      refine ⟨_, rfl, _, _, _, _, true, rfl, .ty _, .base (.bl b), kit_ty (by decide +kernel), _, rfl, iteT ?_⟩
      exact ⟨_, rfl, _, _, _, _, true, rfl, .ty _, .base (.bl b), kit_ty (by decide +kernel), _, rfl, _, rfl, iteF q⟩
  obtain ⟨n, rfl, q⟩ := h
  refine ⟨_, rfl, _, _, _, _, true, rfl, .ty _, .base (.int _), kit_ty (by decide +kernel), _, rfl, iteT ?_⟩
  refine ⟨_, rfl, _, _, _, _, false, rfl, .ty _, .base (.int _), kit_ty (by decide +kernel), _, rfl, _, rfl, iteT ?_⟩
  refine ⟨_, rfl, _, rfl, _, _, rfl, rfl, _, rfl, ?_⟩
  unfold isValue at q
  by_cases c : -99 ≤ n
  · rw [decide_eq_true c] at q
    rw [decide_eq_true c]
    exact ⟨_, _, rfl, rfl, q⟩
  · rw [decide_eq_false c] at q
    rw [decide_eq_false c]
    exact q
theorem c_is_value (T : Top w K mg) : Cal P w K mg base CX0 1 "is_value" spIsValue := (cg_is_value T).imp fun _ _ _ _ => Or.inl
/-! ### is_word -/
def spIsWord : Sp := fun vs H Q _ => match vs with
  | [x] => ∃ z : Str, x = .str z ∧ z.length ≤ sizeLine ∧ Q (.bl (isWord z)) H
  | _ => False
theorem sc_is_word : FnScope ["value", "letter"] ["value"] (defScope s_is_word) := ⟨rfl, rfl, rfl, by decide +kernel, rfl, by decide +kernel, by decide +kernel⟩
/-- data that is no text -/
def noStr : PyData → Bool
  | .str _ => false
  | .dict _ => false
  | _ => true
def spIsWordG (K : PySem.W.Frag) : Sp := fun vs H Q E => spIsWord vs H Q E ∨ match vs with
  | [x] => ∃ d, Dp K H x d ∧ noStr d = true ∧ Q (.bl false) H
  | _ => False
theorem cg_is_word (T : Top w K mg) : Cal P w K mg base CX0 1 "is_word" (spIsWordG K) := by
  refine cal_0 (f_is_word T) (g_is_word T) sc_is_word (fun _ _ _ _ _ _ us hl => match us, hl with | [_], _ => rfl) (fun vs H Q E h => match vs, h with | [_], _ => rfl | [], .inl h => h.elim | [], .inr h => h.elim | _ :: _ :: _, .inl h => h.elim | _ :: _ :: _, .inr h => h.elim) (fun cdv A outer s H vs Q E hr h => ?_)
  match vs, h with
  | [x], h =>
  refine ⟨_, (pss_cons (ps_if (PW.pt (pw_or (pt_not (pt_val (pcb (z_isinstance T) call_isi boot_isinstance (pa_cons (pv 0) (pa_cons (pty (z_str T) boot_str) pa_nil))))) (pw_or1 (pt_not (pt_chain op_le op_le pe_int (pcb (z_len T) call_len_str boot_len (pa_cons (pv 0) pa_nil)) (pglI (i_LONGEST T)))))))
      (pss_one (ps_ret pe_bl))
      pss_nil)
    (pss_cons (ps_for PassesOwn.never rfl (pi_str (pv 0)) (pg_name (i := 1) sc_is_word.nd rfl (Or.inl rfl))
      (pss_one (ps_if (pt_cmpR op_notIn_sign (pv 1) (pglS (i_LETTERS T)) rfl)
      (pss_one (ps_ret pe_bl))
      pss_nil)))
    (pss_one (ps_ret pe_bl)))), ?_⟩
  rcases h with h | ⟨d, hd, hn, q⟩
  case inr =>
    cases hd with
    | str z => cases hn
    | non => exact ⟨_, rfl, _, _, _, _, false, rfl, .ty _, .base .non, kit_ty (by decide +kernel), _, rfl, iteT q⟩
    | int z => exact ⟨_, rfl, _, _, _, _, false, rfl, .ty _, .base (.int z), kit_ty (by decide +kernel), _, rfl, iteT q⟩
    | bl z => exact ⟨_, rfl, _, _, _, _, false, rfl, .ty _, .base (.bl z), kit_ty (by decide +kernel), _, rfl, iteT q⟩
    | lst h1 _ => exact ⟨_, rfl, _, _, _, _, false, rfl, .ty _, tyL h1, kit_ty (by decide +kernel), _, rfl, iteT q⟩
    | tup h1 _ => exact ⟨_, rfl, _, _, _, _, false, rfl, .ty _, tyT h1, kit_ty (by decide +kernel), _, rfl, iteT q⟩
  obtain ⟨z, rfl, hz, q⟩ := h
  refine ⟨_, rfl, _, _, _, _, true, rfl, .ty _, .base (.str _), kit_ty (by decide +kernel), _, rfl, ?_⟩
  refine iteF ?_
  refine ⟨_, rfl, _, rfl, hz, _, _, rfl, rfl, _, rfl, ?_⟩
  have no : ∀ b : Bool, isWord z = b → Q (.bl b) H := fun b e => by rw [← e]; exact q
  by_cases c1 : 1 ≤ (z.length : Int)
  case neg =>
    rw [decide_eq_false c1]
    exact iteF ⟨_, rfl, iteT (no false (by unfold isWord; rw [decide_eq_false (by omega)]; rfl))⟩
  rw [decide_eq_true c1]
  refine iteT ?_
  refine ⟨_, _, rfl, rfl, _, rfl, ?_⟩
  by_cases c2 : (z.length : Int) ≤ 6
  case neg =>
    rw [decide_eq_false c2]
    exact iteT (no false (by unfold isWord; rw [decide_eq_false (by omega : ¬ z.length ≤ 6), Bool.and_false]; rfl))
  rw [decide_eq_true c2]
  refine iteF ?_
  have e0 : isWord z = z.cps.toList.all isLet := by
    unfold isWord
    rw [decide_eq_true (by omega), decide_eq_true (by omega)]
    rfl
  refine ⟨_, rfl, _, rfl, for_it walk_str (fun i σ H' => H' = H ∧ (∃ v, σ = [some (.str z), v]) ∧ (z.cps.toList.take i).all isLet = true) ⟨rfl, ⟨_, rfl⟩, rfl⟩ (fun _ _ _ _ _ => trivial) ?_ ?_⟩
  · rintro i x σ H1 H2 hi ⟨rfl, ⟨v, rfl⟩, ha⟩ ⟨rfl, c, hc, rfl⟩
    refine ⟨_, rfl, c, _, rfl, rfl, _, rfl, ?_⟩
    have hc' : z.cps.toList[i]? = some c := by simpa using hc
    by_cases m : c ∈ ("abcdefghijklmnopqrstuvwxyz" : Str).cps.toList
    · rw [decide_eq_true m]
      refine iteF ⟨rfl, ⟨_, rfl⟩, ?_⟩
      rw [List.take_add_one, hc', List.all_append, ha]
      show ([c].all isLet) = true
      simp only [List.all_cons, List.all_nil, Bool.and_true]
      exact decide_eq_true m
    · rw [decide_eq_false m]
      refine iteT (no false (e0.trans ?_))
      rw [List.all_eq_false]
      exact ⟨c, List.mem_of_getElem? hc', by unfold isLet; rw [decide_eq_false m]; exact Bool.false_ne_true⟩
  · rintro σ H1 ⟨rfl, ⟨v, rfl⟩, ha⟩
    refine no true (e0.trans ?_)
    rw [← ha, List.take_of_length_le (by simp)]
theorem c_is_word (T : Top w K mg) : Cal P w K mg base CX0 1 "is_word" spIsWord := (cg_is_word T).imp fun _ _ _ _ => Or.inl
end
end RM

set_option Elab.async false
set_option linter.all false
set_option maxRecDepth 100000
set_option maxHeartbeats 2000000
namespace RM
open PySem PySem.Spec PyProof.Rows L2
/-! ### dicts from words to values -/
abbrev WM := List (Str × Int)
def mK (m : WM) : List (Key × V) := m.map fun q => (Sum.inr q.1, V.int q.2)
/-- right words and values, no word twice -/
def okM (m : WM) : Prop := (∀ q ∈ m, isWord q.1 = true ∧ isValue q.2 = true) ∧ (m.map (·.1)).Nodup
theorem mK_get {m : WM} {i : Nat} {k : Key} {v : V} (h : (mK m)[i]? = some (k, v)) : ∃ q, m[i]? = some q ∧ k = .inr q.1 ∧ v = .int q.2 := by
  unfold mK at h
  rw [List.getElem?_map] at h
  obtain ⟨q, hq, e⟩ := Option.map_eq_some_iff.mp h
  injection e with e1 e2
  exact ⟨q, hq, e1.symm, e2.symm⟩
theorem valV_mK : ∀ {m : WM}, (m.map (·.1)).Nodup → ∀ q ∈ m, valV (mK m) (Sum.inr q.1) = some (.int q.2)
  | [], _, q, h => by simp at h
  | p :: r, hn, q, h => by
    rw [List.map_cons, List.nodup_cons] at hn
    rcases List.mem_cons.mp h with rfl | h
    · show (((Sum.inr q.1, V.int q.2) :: mK r).find? fun kv => decide (kv.1 = Sum.inr q.1)).map (·.2) = _
      rw [List.find?_cons_of_pos (by simp)]
      rfl
    · have ne : p.1 ≠ q.1 := fun e => hn.1 (by rw [e]; exact List.mem_map.mpr ⟨q, h, rfl⟩)
      show (((Sum.inr p.1, V.int p.2) :: mK r).find? fun kv => decide (kv.1 = Sum.inr q.1)).map (·.2) = _
      rw [List.find?_cons_of_neg (by simpa using ne)]
      exact valV_mK hn.2 q h
theorem upd_back {H : Hp} {a : Addr} {u o : HO} (h : H a = some u) : upd (upd H a o) a u = H := by
  funext b
  by_cases e : b = a
  · rw [e, upd_same, h]
  · rw [upd_ne e, upd_ne e]
/-- m2 holds what m holds, its words ascending -/
def SortM (m m2 : WM) : Prop := m2.Perm m ∧ sortedS (m2.map (·.1)) = true
/-- what a dict's comprehension adds -/
abbrev addsD (D : Addr) (tk tv : TE) : L2.St → Hp → (Hp → Prop) → Prop := fun σ H N => tk σ H fun y H4 => tv σ H4 fun z H5 => ∃ kvs k, y = kV k ∧ H5 D = some (.dK kvs) ∧ kvs.length < sizeLine ∧ N (upd H5 D (.dK (putK kvs k z)))
/-- a dict's comprehension over a walk: I by the turn -/
theorem dc_walk {J : It} {n : Nat} {G : Hp → Prop} {Y : Nat → Hp → V → Hp → Prop} (wk : Walk J n G Y) {g : TG} {tt : TT} {tk tv : TE} {vs : List Nat} {σ : L2.St} {H1 : Hp} {D : Addr} {Qd : Hp → Prop} (I : Nat → Hp → Prop) (start : I 0 (upd H1 D (.dK [])))
    (stay : ∀ i H, i ≤ n → I i H → G H) (turn : ∀ i x H H', i < n → I i H → Y i H x H' → g x (wipe σ vs) H' fun σ2 H2 => wipe σ2 vs = wipe σ vs ∧ tt σ2 H2 fun b H3 => if b = true then addsD D tk tv σ2 H3 (I (i + 1)) else I (i + 1) H3)
    (last : ∀ H, I n H → Qd H) : ∃ W : Nat → Nat → Hp → Prop, (∃ m, W 0 m (upd H1 D (.dK []))) ∧ Turns J g tt (addsD D tk tv) (wipe σ vs) vs W Qd := by
  refine ⟨fun i m H => m + i = n ∧ I i H, ⟨n, rfl, start⟩, ?_⟩
  rintro i m H ⟨e, hI⟩
  have hG := stay i H (by omega) hI
  cases m with
  | zero =>
    obtain rfl : i = n := by omega
    exact .inl ⟨wk.stops H hG, last H hI⟩
  | succ m => exact .inr ⟨wk.goes i H (by omega) hG, I (i + 1), fun H' h => ⟨m, by omega, by omega, h⟩, fun x H' y => turn i x H H' (by omega) hI (wk.yields i H x H' (by omega) hG y)⟩
/-- the map with the words ks in their order -/
def pick (m : WM) (ks : List Str) : WM := ks.map fun k => (k, ((m.find? fun q => decide (q.1 = k)).map (·.2)).getD 0)
theorem find_own : ∀ {m : WM}, (m.map (·.1)).Nodup → ∀ q ∈ m, ((m.find? fun p => decide (p.1 = q.1)).map (·.2)).getD 0 = q.2
  | [], _, q, h => by simp at h
  | p :: r, hn, q, h => by
    rw [List.map_cons, List.nodup_cons] at hn
    rcases List.mem_cons.mp h with rfl | h
    · rw [List.find?_cons_of_pos (by simp)]
      rfl
    · have ne : p.1 ≠ q.1 := fun e => hn.1 (by rw [e]; exact List.mem_map.mpr ⟨q, h, rfl⟩)
      rw [List.find?_cons_of_neg (by simpa using ne)]
      exact find_own hn.2 q h
theorem pick_keys (m : WM) (ks : List Str) : (pick m ks).map (·.1) = ks := by
  unfold pick
  rw [List.map_map]
  exact List.map_id ks
theorem pick_perm {m : WM} {ks : List Str} (hn : (m.map (·.1)).Nodup) (hp : ks.Perm (m.map (·.1))) : (pick m ks).Perm m := by
  have h := hp.map fun k => (k, ((m.find? fun q => decide (q.1 = k)).map (·.2)).getD 0)
  rw [List.map_map] at h
  have e : m.map ((fun k => (k, ((m.find? fun q => decide (q.1 = k)).map (·.2)).getD 0)) ∘ (·.1)) = m := by
    have key : ∀ l : WM, (∀ q ∈ l, q ∈ m) → l.map ((fun k => (k, ((m.find? fun q => decide (q.1 = k)).map (·.2)).getD 0)) ∘ (·.1)) = l := by
      intro l
      induction l with
      | nil => intro _; rfl
      | cons q r ih =>
        intro hl
        rw [List.map_cons, ih fun x hx => hl x (List.mem_cons_of_mem _ hx)]
        show (q.1, ((m.find? fun p => decide (p.1 = q.1)).map (·.2)).getD 0) :: r = q :: r
        rw [find_own hn q (hl q List.mem_cons_self)]
    exact key m fun _ h => h
  rw [e] at h
  exact h
/-- a new word goes to the end -/
theorem put_new {m : WM} {z : Str} {n : Int} (h : z ∉ m.map (·.1)) : putK (mK m) (Sum.inr z) (.int n) = mK (m ++ [(z, n)]) := by
  have e : ((mK m).any fun kv => decide (kv.1 = Sum.inr z)) = false := by
    rw [List.any_eq_false]
    intro kv hkv
    obtain ⟨q, hq, rfl⟩ := List.mem_map.mp hkv
    simp only [decide_eq_true_eq]
    intro e
    exact h (List.mem_map.mpr ⟨q, hq, Sum.inr.inj e⟩)
  unfold putK
  rw [if_neg (by rw [e]; exact Bool.false_ne_true)]
  unfold mK
  rw [List.map_append]
  rfl
section
variable {P : Program} {w : World} {K : PySem.W.Frag} {mg : Str → Option Value} {base : Heap}
def spChk : Sp := fun vs H Q _ => match vs with
  | [x, y] => ∃ (a : Addr) (m : WM) (least : Nat), x = .ref a ∧ y = .int least ∧ H a = some (.dK (mK m)) ∧ okM m ∧ least ≤ m.length ∧ m.length ≤ 4 ∧
    ∀ p H' m2, Same H H' → H p = none → H' p = some (.dK (mK m2)) → SortM m m2 → Q (.ref p) H'
  | _ => False
theorem sc_checked : FnScope ["values", "least", "key"] ["values", "least"] (defScope s_checked) := ⟨rfl, rfl, rfl, by decide +kernel, rfl, by decide +kernel, by decide +kernel⟩
theorem c_checked (T : Top w K mg) : Cal P w K mg base CX0 3 "checked" spChk := by
  refine cal_0 (f_checked T) (g_checked T) sc_checked (fun _ _ _ _ _ _ us hl => match us, hl with | [_, _], _ => rfl) (fun vs H Q E h => match vs, h with | [_, _], _ => rfl) (fun cdv A outer s H vs Q E hr h => ?_)
  match vs, h with
  | [x, y], h =>
  obtain ⟨a, m, least, rfl, rfl, ha, hg, h1, h2, q⟩ := h
  have lm : (mK m).length = m.length := List.length_map ..
  refine ⟨_, (pss_cons (ps_if (PW.pt (pw_or (pt_not (pt_val (pcb (z_isinstance T) call_isi boot_isinstance (pa_cons (pv 0) (pa_cons (pty (z_dict T) boot_dict) pa_nil))))) (pw_or1 (pt_not (pt_chain op_le op_le (pv 1) (pcb (z_len T) call_lenD boot_len (pa_cons (pv 0) pa_nil)) (pglI (i_MOST T)))))))
      (pss_one ps_never)
      pss_nil)
    (pss_cons (ps_lock (ps_for PassesOwn.never rfl (pi_keys (pv 0)) (pg_name (i := 2) sc_checked.nd rfl (Or.inl rfl))
      (pss_one (ps_if (PW.pt (pw_or (pt_not (pt_val (pc (c_is_word T) hr (pa_cons (pv 2) pa_nil)))) (pw_or1 (pt_not (pt_val (pc (c_is_value T) hr (pa_cons (pe_dget (hu_of hr) (pv 0) (pv 2) (fun _ _ => rfl)) pa_nil)))))))
      (pss_one ps_never)
      pss_nil))))
    (pss_one (ps_ret (pe_dc (own := [("key", 2)]) rfl sc_checked.nd (pi_list (pcb (z_sorted T) (call_sortedD rfl) boot_sorted (pa_cons (pv 0) pa_nil))) (blkOk_by (own := [("key", 2)]) (N := ["values", "least", "key"]) (sc := defScope s_checked) (by decide +kernel)) (fun _ _ _ _ _ => (pg_name (i := 2) sc_checked.nd rfl (Or.inl rfl) (Or.inr rfl))) (fun _ _ _ _ _ => pts_nil) (fun _ _ _ _ _ => (pv 2)) (fun _ _ _ _ _ => (pe_dget (hu_of hr) (pv 0) (pv 2) (fun _ _ => rfl)))))))), ?_⟩
  refine ⟨_, rfl, _, _, _, _, true, rfl, .ty _, .base (.dK ha), kit_ty (by decide +kernel), _, rfl, iteF ?_⟩
  refine ⟨_, rfl, _, rfl, a, mK m, rfl, ha, _, _, rfl, rfl, _, rfl, ?_⟩
  rw [decide_eq_true (by omega : ((least : Nat) : Int) ≤ ((mK m).length : Nat))]
  refine iteT ⟨_, _, rfl, rfl, _, rfl, ?_⟩
  refine ifF (by rw [Bool.not_eq_false', decide_eq_true_eq]; show (((mK m).length : Nat) : Int) ≤ 4; omega) ?_
  -- for key in values
  refine ⟨a, .dK (mK m), ha, trivial, fun od => ?_⟩
  refine ⟨_, rfl, a, od, rfl, .inl ⟨mK m, upd_same, for_it walk_keys (fun i σ H' => H' = upd H a (.frz od (.dK (mK m))) ∧ ∃ v, σ = [some (.ref a), some (.int least), v]) ⟨rfl, _, rfl⟩ (fun i σ H' _ h => by rw [h.1]; exact upd_same) ?_ ?_⟩⟩
  · rintro i x σ H1 H2 hi ⟨rfl, v, rfl⟩ ⟨rfl, k, v2, hk, rfl⟩
    obtain ⟨p, hp, rfl, rfl⟩ := mK_get hk
    have hm := List.mem_of_getElem? hp
    obtain ⟨g1, g2⟩ := hg.1 p hm
    refine ⟨_, rfl, p.1, rfl, word_size g1, ?_⟩
    rw [g1]
    refine ⟨_, rfl, iteF ?_⟩
    refine ⟨_, rfl, _, rfl, a, .int p.2, rfl, .inl ⟨mK m, .inr p.1, .inr ⟨od, upd_same⟩, rfl, (valV_mK hg.2 p hm).symm⟩, p.2, rfl, ?_⟩
    rw [g2]
    exact ⟨_, rfl, ifF rfl ⟨rfl, _, rfl⟩⟩
  · rintro σ H1 ⟨rfl, v, rfl⟩
    refine ⟨upd_same, ?_⟩
    rw [upd_back ha]
    refine ⟨_, rfl, a, mK m, m.map (·.1), rfl, .of ha, by unfold mK; rw [List.map_map, List.map_map]; rfl, by rw [List.length_map]; omega, fun ys p hperm hsort hp => ?_⟩
    refine ⟨p, rfl, ⟨_, SqL.of upd_same⟩, fun D nD => ?_⟩
    have s1 := smNew1 hp (.lst (ys.map V.str))
    have hD0 : H D = none := s1.free nD
    have ly : ys.length = m.length := by rw [hperm.length_eq, List.length_map]
    have nd : ys.Nodup := hperm.nodup_iff.mpr hg.2
    have Dp : D ≠ p := fun z => by rw [z, upd_same] at nD; cases nD
    refine dc_walk walk_list (fun i H' => Same H H' ∧ H' p = some (.lst (ys.map V.str)) ∧ H' D = some (.dK (mK (pick m (ys.take i))))) ⟨smNew s1 nD _, by rw [upd_ne (Ne.symm Dp)]; exact upd_same, upd_same⟩ (fun i H' _ h => SqL.of h.2.1) ?_ ?_
    · rintro i x H1 H2 hi ⟨e, hp1, hD⟩ ⟨rfl, hx⟩
      rw [List.getElem?_map] at hx
      obtain ⟨z, hz, rfl⟩ := Option.map_eq_some_iff.mp hx
      obtain ⟨q1, hq1, rfl⟩ := List.mem_map.mp (hperm.mem_iff.mp (List.mem_of_getElem? hz))
      have il := (List.getElem?_eq_some_iff.mp hz).1
      refine ⟨rfl, yesI ?_⟩
      refine ⟨_, rfl, _, rfl, _, rfl, a, .int q1.2, rfl, .inl ⟨mK m, .inr q1.1, .of (e _ _ ha), rfl, (valV_mK hg.2 q1 hq1).symm⟩, mK (pick m (ys.take i)), .inr q1.1, rfl, hD, small1000 ?_, ?_⟩
      · show ((pick m (ys.take i)).map _).length ≤ 1000
        rw [List.length_map]
        show ((ys.take i).map _).length ≤ 1000
        rw [List.length_map, List.length_take]
        omega
      · have hne : q1.1 ∉ (pick m (ys.take i)).map (·.1) := by
          rw [pick_keys]
          intro hin
          obtain ⟨j, hj, ej⟩ := List.mem_iff_getElem.mp hin
          rw [List.getElem_take] at ej
          have jl : j < i := by rw [List.length_take] at hj; omega
          have := (List.getElem_inj (h₀ := by omega) (h₁ := il) nd).mp (ej.trans (List.getElem?_eq_some_iff.mp hz).2.symm)
          omega
        rw [put_new hne]
        refine ⟨smOut e hD0 _, by rw [upd_ne (Ne.symm Dp)]; exact hp1, ?_⟩
        rw [upd_same, List.take_add_one, hz]
        unfold pick
        rw [List.map_append]
        show some (HO.dK (mK (_ ++ [(q1.1, q1.2)]))) = some (HO.dK (mK (_ ++ [(q1.1, ((m.find? fun q => decide (q.1 = q1.1)).map (·.2)).getD 0)])))
        rw [find_own hg.2 q1 hq1]
    · rintro H1 ⟨e, _, hD⟩
      rw [List.length_map, List.take_length] at hD
      exact q D H1 (pick m ys) e hD0 hD ⟨pick_perm hg.2 hperm, by rw [pick_keys]; exact hsort⟩
end
end RM

set_option Elab.async false
set_option linter.all false
set_option maxRecDepth 100000
set_option maxHeartbeats 2000000
namespace RM
open PySem PySem.Spec PyProof.Rows L2
section
variable {P : Program} {w : World} {K : PySem.W.Frag} {mg : Str → Option Value} {base : Heap}
/-! ### Change(..), Surroundings(..) -/
/-- an object of the class at C whose field f is a dict of words m, ascending -/
def MapAt (H : Hp) (C : Addr) (f : Str) (a : Addr) (m : WM) : Prop := ∃ dx p, H a = some (.ins C dx [(f, .ref p)]) ∧ H p = some (.dK (mK m)) ∧ okM m ∧ sortedS (m.map (·.1)) = true
theorem MapAt.keep {H H' : Hp} {C : Addr} {f : Str} {a : Addr} {m : WM} (e : Same H H') (h : MapAt H C f a m) : MapAt H' C f a m := let ⟨dx, p, h1, h2, h3⟩ := h; ⟨dx, p, e _ _ h1, e _ _ h2, h3⟩
theorem okM_perm {m m2 : WM} (h : okM m) (p : m2.Perm m) : okM m2 := ⟨fun q hq => h.1 q (p.mem_iff.mp hq), (p.map _).nodup_iff.mpr h.2⟩
def spMapInit (C : Addr) (f : Str) (least : Nat) : Sp := fun vs H Q _ => match vs with
  | [x, v] => ∃ a dx b m, x = .ref a ∧ v = .ref b ∧ H a = some (.ins C dx []) ∧ H b = some (.dK (mK m)) ∧ okM m ∧ least ≤ m.length ∧ m.length ≤ 4 ∧
    ∀ H' m2, (∀ b u, b ≠ a → H b = some u → H' b = some u) → MapAt H' C f a m2 → m2.Perm m → Q .non H'
  | _ => False
theorem sc_Change_init : FnScope ["self", "values"] ["self", "values"] (defScope s_Change_init) := ⟨rfl, rfl, rfl, by decide +kernel, rfl, by decide +kernel, by decide +kernel⟩
theorem c_Change_init (T : Top w K mg) : Mak P w K mg base CX0 4 "Change" (He.ga K "Change") (spMapInit (He.ga K "Change") "given" 0) := by
  refine mak_0 (f_Change_init T) (mk_Change T) (g_Change T) sc_Change_init (fun _ _ _ _ _ _ us hl => match us, hl with | [_, _], _ => rfl) (fun vs H Q E h => match vs, h with | [_, _], _ => rfl) (fun cdv A outer s H vs Q E hr h => ?_)
  match vs, h with
  | [x, v], h =>
  obtain ⟨a, dx, b, m, rfl, rfl, ha, hb, hg, h1, h2, q⟩ := h
  refine ⟨_, (pss_one (ps_fld (pv 0) (pc (c_checked T) hr (pa_cons (pv 1) (pa_cons pe_int pa_nil))) rfl)), ?_⟩
  refine ⟨_, rfl, b, m, 0, rfl, rfl, hb, hg, h1, h2, fun p H1 m2 e1 np hp st => ?_⟩
  have ha1 := e1 _ _ ha
  have pa : p ≠ a := fun z => by rw [z, ha] at np; cases np
  refine ⟨_, rfl, a, _, dx, [], rfl, ha1, k_Change T, na_Change_given T, by decide, ?_⟩
  refine q _ m2 (fun c u hc hu => by rw [upd_ne hc]; exact e1 _ _ hu) ⟨dx, p, upd_same, by rw [upd_ne pa]; exact hp, okM_perm hg st.1, st.2⟩ st.1
end
end RM

set_option Elab.async false
set_option linter.all false
set_option maxRecDepth 100000
set_option maxHeartbeats 2000000
/-! reading set comprehensions of texts; rising texts are one -/
namespace RM
open PySem PySem.Spec PyProof.Rows L2
theorem small_scan {n : Nat} (h : n ≤ 1000) : n + 1 < scanBound := by unfold scanBound; omega
/-- one clause -/
theorem scX_of {P : Program} {w : World} {J : It} {n : Nat} {G : Hp → Prop} {Y : Nat → Hp → V → Hp → Prop} (wk : Walk J n G Y) {g : TG} {tt : TT} {te : TE} {vs : List Nat} {σ : L2.St} {H1 : Hp} {D : Addr} {Qd : Hp → Prop}
    (o : Nat → Option Str) (hD : H1 D = none) (hn : n ≤ 1000) (hG : ∀ H, Same H1 H → G H)
    (hs : ∀ i x H H' (N : Hp → Prop), i < n → Same H1 H → Y i H x H' →
      (∀ H4 k, o i = some k → Same H H4 → ∃ c l, V.str k = .str c ∧ H4 D = some (SetX P w D l) ∧ l.length + 1 < scanBound ∧ N (upd H4 D (SetX P w D (insX c l)))) → (o i = none → ∀ H3, Same H H3 → N H3) →
      g x (wipe σ vs) H' fun σ2 H2 => wipe σ2 vs = wipe σ vs ∧ tt σ2 H2 fun b H3 => if b = true then addsX P w D te σ2 H3 N else N H3)
    (hd : ∀ H l, Same H1 H → H D = some (SetX P w D l) → l.length ≤ n → (∀ k, k ∈ l ↔ ∃ i, i < n ∧ o i = some k) → Qd H) :
    ∃ W : Nat → Nat → Hp → Prop, (∃ m, W 0 m (upd H1 D (SetX P w D []))) ∧ Turns J g tt (addsX P w D te) (wipe σ vs) vs W Qd := by
  refine ⟨fun i m H => m = n - i ∧ i ≤ n ∧ Same H1 H ∧ ∃ l, H D = some (SetX P w D l) ∧ l.length ≤ i ∧ ∀ k, k ∈ l ↔ ∃ j, j < i ∧ o j = some k, ⟨n, by simp, Nat.zero_le _, smNew1 hD _, [], upd_same, Nat.le_refl _, fun k => ⟨fun z => by simp at z, fun ⟨j, h, _⟩ => by omega⟩⟩, ?_⟩
  rintro i m H ⟨rfl, hi, s1, l, hl, hll, hm⟩
  by_cases hlt : i < n
  · refine .inr ⟨wk.goes i H hlt (hG H s1), fun H' => Same H1 H' ∧ ∃ l, H' D = some (SetX P w D l) ∧ l.length ≤ i + 1 ∧ ∀ k, k ∈ l ↔ ∃ j, j < i + 1 ∧ o j = some k, fun H' p' => ⟨n - (i + 1), by omega, rfl, hlt, p'⟩, fun x H' y => ?_⟩
    refine hs i x H H' _ hlt s1 (wk.yields i H x H' hlt (hG H s1) y) (fun H4 k ho s4 => ⟨k, l, rfl, s4 _ _ hl, small_scan (by omega), fun b u q => ?_, insX k l, upd_same, Nat.le_trans insX_len (by omega), fun k' => ?_⟩) fun ho H3 s3 => ⟨s1.trans s3, l, s3 _ _ hl, by omega, fun k' => ?_⟩
    · rw [upd_ne (ne_of_none q hD)]
      exact s4 _ _ (s1 _ _ q)
    · rw [insX_mem, hm]
      constructor
      · rintro (rfl | ⟨j, hj, e⟩)
        · exact ⟨i, by omega, ho⟩
        · exact ⟨j, by omega, e⟩
      · rintro ⟨j, hj, e⟩
        by_cases hji : j = i
        · subst hji
          rw [ho] at e
          exact .inl (Option.some.inj e).symm
        · exact .inr ⟨j, by omega, e⟩
    · rw [hm]
      constructor
      · rintro ⟨j, hj, e⟩
        exact ⟨j, by omega, e⟩
      · rintro ⟨j, hj, e⟩
        by_cases hji : j = i
        · subst hji
          rw [ho] at e
          cases e
        · exact ⟨j, by omega, e⟩
  · have e : i = n := by omega
    subst e
    exact .inl ⟨wk.stops H (hG H s1), hd H l s1 hl hll hm⟩
/-- the inner clause's loop: the texts f 0 .. f (n1 - 1) go in -/
theorem scX_in {P : Program} {w : World} {J1 : It} {n1 : Nat} {G1 : Hp → Prop} {Y1 : Nat → Hp → V → Hp → Prop} (wk : Walk J1 n1 G1 Y1) {g1 : TG} {tt1 : TT} {te : TE} {vs1 : List Nat} {σ2 : L2.St} {H0 H4 : Hp} {D : Addr} {N : Hp → Prop} {l0 : List Str}
    (f : Nat → Str) (hD : H0 D = none) (h4 : Same H0 H4) (hl0 : H4 D = some (SetX P w D l0)) (hn : l0.length + n1 ≤ 1000) (hG : ∀ H, Same H0 H → G1 H)
    (hs : ∀ j x H H' (N1 : Hp → Prop), j < n1 → Same H0 H → Y1 j H x H' →
      (∀ H7, Same H H7 → ∃ c l, V.str (f j) = .str c ∧ H7 D = some (SetX P w D l) ∧ l.length + 1 < scanBound ∧ N1 (upd H7 D (SetX P w D (insX c l)))) →
      g1 x (wipe σ2 vs1) H' fun σ3 H5 => wipe σ3 vs1 = wipe σ2 vs1 ∧ tt1 σ3 H5 fun b H6 => if b = true then addsX P w D te σ3 H6 N1 else N1 H6)
    (hd : ∀ H l, Same H0 H → H D = some (SetX P w D l) → l.length ≤ l0.length + n1 → (∀ k, k ∈ l ↔ k ∈ l0 ∨ ∃ j, j < n1 ∧ f j = k) → N H) :
    ∃ W1 : Nat → Nat → Hp → Prop, (∃ m, W1 0 m H4) ∧ Turns J1 g1 tt1 (addsX P w D te) (wipe σ2 vs1) vs1 W1 N := by
  refine ⟨fun i m H => m = n1 - i ∧ i ≤ n1 ∧ Same H0 H ∧ ∃ l, H D = some (SetX P w D l) ∧ l.length ≤ l0.length + i ∧ ∀ k, k ∈ l ↔ k ∈ l0 ∨ ∃ j, j < i ∧ f j = k, ⟨n1, by simp, Nat.zero_le _, h4, l0, hl0, Nat.le_refl _, fun k => ⟨.inl, fun z => z.elim id fun ⟨j, h, _⟩ => by omega⟩⟩, ?_⟩
  rintro i m H ⟨rfl, hi, s1, l, hl, hll, hm⟩
  by_cases hlt : i < n1
  · refine .inr ⟨wk.goes i H hlt (hG H s1), fun H' => Same H0 H' ∧ ∃ l, H' D = some (SetX P w D l) ∧ l.length ≤ l0.length + (i + 1) ∧ ∀ k, k ∈ l ↔ k ∈ l0 ∨ ∃ j, j < i + 1 ∧ f j = k, fun H' p' => ⟨n1 - (i + 1), by omega, rfl, hlt, p'⟩, fun x H' y => ?_⟩
    refine hs i x H H' _ hlt s1 (wk.yields i H x H' hlt (hG H s1) y) fun H7 s7 => ⟨f i, l, rfl, s7 _ _ hl, small_scan (by omega), fun b u q => ?_, insX (f i) l, upd_same, Nat.le_trans insX_len (by omega), fun k' => ?_⟩
    · rw [upd_ne (ne_of_none q hD)]
      exact s7 _ _ (s1 _ _ q)
    · rw [insX_mem, hm]
      constructor
      · rintro (rfl | h | ⟨j, hj, e⟩)
        · exact .inr ⟨i, by omega, rfl⟩
        · exact .inl h
        · exact .inr ⟨j, by omega, e⟩
      · rintro (h | ⟨j, hj, e⟩)
        · exact .inr (.inl h)
        · by_cases hji : j = i
          · subst hji
            exact .inl e.symm
          · exact .inr (.inr ⟨j, by omega, e⟩)
  · have e : i = n1 := by omega
    subst e
    exact .inl ⟨wk.stops H (hG H s1), hd H l s1 hl hll hm⟩
/-! ### rising texts -/
/-- the members zs, each once, in the order of texts -/
def KeysOf (ks zs : List Str) : Prop := sortedS ks = true ∧ ks.Nodup ∧ ∀ k, k ∈ ks ↔ k ∈ zs
theorem rising_pw : ∀ (l : List Str) (p : Str), risingS p l = true → (p :: l).Pairwise fun a b => ¬ b.cps.toList < a.cps.toList
  | [], p, _ => List.pairwise_singleton _ _
  | x :: r, p, h => by
    have h' : (!ltCps x.cps.toList p.cps.toList && risingS x r) = true := h
    rw [Bool.and_eq_true] at h'
    have ih := rising_pw r x h'.2
    have h1 : ¬ x.cps.toList < p.cps.toList := fun z => by
      have := h'.1
      rw [ltCps_eq, decide_eq_true z] at this
      cases this
    refine List.pairwise_cons.mpr ⟨fun y hy => ?_, ih⟩
    rcases List.mem_cons.mp hy with rfl | hy
    · exact h1
    · have h2 := (List.pairwise_cons.mp ih).1 y hy
      exact List.not_lt.mpr (List.le_trans (List.not_lt.mp h1) (List.not_lt.mp h2))
theorem sorted_pw : ∀ {l : List Str}, sortedS l = true → l.Pairwise fun a b => ¬ b.cps.toList < a.cps.toList
  | [], _ => .nil
  | x :: r, h => rising_pw r x h
theorem str_antisymm {a b : Str} (h1 : ¬ b.cps.toList < a.cps.toList) (h2 : ¬ a.cps.toList < b.cps.toList) : a = b := by
  have e := List.le_antisymm (List.not_lt.mp h1) (List.not_lt.mp h2)
  obtain ⟨⟨x⟩⟩ := a
  obtain ⟨⟨y⟩⟩ := b
  have e' : x = y := e
  rw [e']
theorem pw_one : ∀ {l m : List Str}, l.Pairwise (fun a b => ¬ b.cps.toList < a.cps.toList) → m.Pairwise (fun a b => ¬ b.cps.toList < a.cps.toList) → l.Nodup → m.Nodup → (∀ k, k ∈ l ↔ k ∈ m) → l = m
  | [], [], _, _, _, _, _ => rfl
  | [], y :: m, _, _, _, _, h => by simpa using (h y).mpr List.mem_cons_self
  | x :: l, [], _, _, _, _, h => by simpa using (h x).mp List.mem_cons_self
  | x :: l, y :: m, hl, hm, nl, nm, h => by
    obtain ⟨l1, l2⟩ := List.pairwise_cons.mp hl
    obtain ⟨m1, m2⟩ := List.pairwise_cons.mp hm
    obtain ⟨a1, a2⟩ := List.nodup_cons.mp nl
    obtain ⟨b1, b2⟩ := List.nodup_cons.mp nm
    have e : x = y := by
      rcases List.mem_cons.mp ((h x).mp List.mem_cons_self) with e | hx
      · exact e
      · rcases List.mem_cons.mp ((h y).mpr List.mem_cons_self) with e | hy
        · exact e.symm
        · exact str_antisymm (l1 y hy) (m1 x hx)
    subst e
    rw [pw_one l2 m2 a2 b2 fun k => ?_]
    constructor
    · intro hk
      rcases List.mem_cons.mp ((h k).mp (List.mem_cons_of_mem _ hk)) with e | z
      · exact absurd (e ▸ hk) a1
      · exact z
    · intro hk
      rcases List.mem_cons.mp ((h k).mpr (List.mem_cons_of_mem _ hk)) with e | z
      · exact absurd (e ▸ hk) b1
      · exact z
theorem KeysOf.one {ks ks' zs zs' : List Str} (a : KeysOf ks zs) (b : KeysOf ks' zs') (h : ∀ k, k ∈ zs ↔ k ∈ zs') : ks = ks' :=
  pw_one (sorted_pw a.1) (sorted_pw b.1) a.2.1 b.2.1 fun k => (a.2.2 k).trans ((h k).trans (b.2.2 k).symm)
theorem KeysOf.of {ks l zs : List Str} (p : ks.Perm l) (nd : l.Nodup) (s : sortedS ks = true) (h : ∀ k, k ∈ l ↔ k ∈ zs) : KeysOf ks zs := ⟨s, p.nodup_iff.mpr nd, fun k => p.mem_iff.trans (h k)⟩
end RM

set_option Elab.async false
set_option linter.all false
set_option maxRecDepth 100000
set_option maxHeartbeats 2000000
/-! dicts of words: what is got, put over one another -/
namespace RM
open PySem PySem.Spec PyProof.Rows L2
def wKeys (m : WM) : List Str := m.map (·.1)
def wVals (m : WM) : List Int := m.map (·.2)
def wGet (m : WM) (k : Str) : Option Int := (m.find? fun q => decide (q.1 = k)).map (·.2)
theorem wGet_nil (k : Str) : wGet [] k = none := rfl
theorem wGet_cons (p : Str × Int) (r : WM) (k : Str) : wGet (p :: r) k = if p.1 = k then some p.2 else wGet r k := by
  unfold wGet
  by_cases e : p.1 = k
  · rw [List.find?_cons_of_pos (by simpa using e), if_pos e]
    rfl
  · rw [List.find?_cons_of_neg (by simpa using e), if_neg e]
theorem wGet_none {m : WM} {k : Str} : wGet m k = none ↔ k ∉ wKeys m := by
  induction m with
  | nil => simp [wGet_nil, wKeys]
  | cons p r ih =>
    rw [wGet_cons]
    show _ ↔ k ∉ p.1 :: wKeys r
    by_cases e : p.1 = k
    · rw [if_pos e, e]
      simp
    · rw [if_neg e, ih, List.mem_cons, not_or]
      exact ⟨fun h => ⟨Ne.symm e, h⟩, fun h => h.2⟩
theorem wGet_mem {m : WM} (hn : (wKeys m).Nodup) {q : Str × Int} (h : q ∈ m) : wGet m q.1 = some q.2 := by
  induction m with
  | nil => simp at h
  | cons p r ih =>
    have hn' : (p.1 :: wKeys r).Nodup := hn
    rw [List.nodup_cons] at hn'
    rw [wGet_cons]
    rcases List.mem_cons.mp h with rfl | h
    · rw [if_pos rfl]
    · rw [if_neg fun e => hn'.1 (by rw [e]; exact List.mem_map.mpr ⟨q, h, rfl⟩)]
      exact ih hn'.2 h
theorem wGet_some {m : WM} {k : Str} {n : Int} (h : wGet m k = some n) : (k, n) ∈ m := by
  induction m with
  | nil => simp [wGet_nil] at h
  | cons p r ih =>
    rw [wGet_cons] at h
    by_cases e : p.1 = k
    · rw [if_pos e] at h
      rw [← e, ← Option.some.inj h]
      exact List.mem_cons_self
    · rw [if_neg e] at h
      exact List.mem_cons_of_mem _ (ih h)
theorem wGet_perm {m g : WM} (hn : (wKeys g).Nodup) (p : m.Perm g) (k : Str) : wGet m k = wGet g k := by
  have hm : (wKeys m).Nodup := (p.map _).nodup_iff.mpr hn
  cases e : wGet m k with
  | none =>
    symm
    rw [wGet_none] at e ⊢
    exact fun h => e ((p.map (·.1)).mem_iff.mpr h)
  | some n => exact (wGet_mem hn (q := (k, n)) (p.mem_iff.mp (wGet_some e))).symm
theorem valV_get (m : WM) (k : Str) : valV (mK m) (Sum.inr k) = (wGet m k).map V.int := by
  induction m with
  | nil => rfl
  | cons p r ih =>
    rw [wGet_cons]
    show valV ((Sum.inr p.1, V.int p.2) :: mK r) (Sum.inr k) = _
    by_cases e : p.1 = k
    · rw [valV_pos (by show Sum.inr p.1 = _; rw [e]), if_pos e]
      rfl
    · rw [valV_neg (by show ¬ Sum.inr p.1 = _; exact fun z => e (Sum.inr.inj z)), if_neg e, ih]
def wPut (m : WM) (k : Str) (n : Int) : WM := if k ∈ wKeys m then m.map (fun q => if q.1 = k then (k, n) else q) else m ++ [(k, n)]
theorem putK_w (m : WM) (k : Str) (n : Int) : putK (mK m) (Sum.inr k) (.int n) = mK (wPut m k n) := by
  have a : ((mK m).any fun kv => decide (kv.1 = Sum.inr k)) = decide (k ∈ wKeys m) := by
    rw [Bool.eq_iff_iff, List.any_eq_true, decide_eq_true_iff]
    constructor
    · rintro ⟨kv, h, e⟩
      obtain ⟨q, hq, rfl⟩ := List.mem_map.mp h
      exact List.mem_map.mpr ⟨q, hq, Sum.inr.inj (of_decide_eq_true e)⟩
    · intro h
      obtain ⟨q, hq, e⟩ := List.mem_map.mp h
      exact ⟨(Sum.inr q.1, .int q.2), List.mem_map.mpr ⟨q, hq, rfl⟩, decide_eq_true (by rw [e])⟩
  unfold putK wPut
  rw [a]
  by_cases h : k ∈ wKeys m
  · rw [if_pos (decide_eq_true h), if_pos h]
    unfold mK
    rw [List.map_map, List.map_map]
    refine List.map_congr_left fun q _ => ?_
    show (if Sum.inr q.1 = Sum.inr k then _ else _) = (fun q : Str × Int => ((Sum.inr q.1 : Key), V.int q.2)) (if q.1 = k then (k, n) else q)
    by_cases e : q.1 = k
    · rw [if_pos (by rw [e]), if_pos e]
      show (Sum.inr q.1, V.int n) = (Sum.inr k, V.int n)
      rw [e]
    · rw [if_neg (fun z => e (Sum.inr.inj z)), if_neg e]
  · rw [if_neg (by simpa using h), if_neg h]
    unfold mK
    rw [List.map_append]
    rfl
theorem wKeys_put (m : WM) (k : Str) (n : Int) : wKeys (wPut m k n) = if k ∈ wKeys m then wKeys m else wKeys m ++ [k] := by
  unfold wPut
  by_cases h : k ∈ wKeys m
  · rw [if_pos h, if_pos h]
    unfold wKeys
    rw [List.map_map]
    refine List.map_congr_left fun q _ => ?_
    show (if q.1 = k then (k, n) else q).1 = q.1
    by_cases e : q.1 = k
    · rw [if_pos e, e]
    · rw [if_neg e]
  · rw [if_neg h, if_neg h]
    unfold wKeys
    rw [List.map_append]
    rfl
theorem wGet_app (m : WM) (k j : Str) (n : Int) : wGet (m ++ [(k, n)]) j = (wGet m j).or (if k = j then some n else none) := by
  induction m with
  | nil => rw [List.nil_append, wGet_cons]; rfl
  | cons p r ih =>
    rw [List.cons_append, wGet_cons, wGet_cons, ih]
    by_cases e : p.1 = j
    · rw [if_pos e, if_pos e]
      rfl
    · rw [if_neg e, if_neg e]
theorem wGet_put (m : WM) (k j : Str) (n : Int) : wGet (wPut m k n) j = if k = j then some n else wGet m j := by
  unfold wPut
  by_cases h : k ∈ wKeys m
  · rw [if_pos h]
    by_cases e : k = j
    · rw [if_pos e, ← e]
      clear e j
      induction m with
      | nil => simp [wKeys] at h
      | cons p r ih =>
        rw [List.map_cons, wGet_cons]
        by_cases e : p.1 = k
        · rw [if_pos e, if_pos rfl]
        · rw [if_neg e, if_neg e]
          have h' : k ∈ p.1 :: wKeys r := h
          rcases List.mem_cons.mp h' with z | z
          · exact absurd z.symm e
          · exact ih z
    · rw [if_neg e]
      clear h
      induction m with
      | nil => rfl
      | cons p r ih =>
        rw [List.map_cons, wGet_cons, wGet_cons, ih]
        by_cases q : p.1 = k
        · rw [if_pos q, if_neg e, if_neg (by rw [q]; exact e)]
        · rw [if_neg q]
  · rw [if_neg h, wGet_app]
    by_cases e : k = j
    · rw [if_pos e, if_pos e, ← e, wGet_none.mpr h]
      rfl
    · rw [if_neg e, if_neg e, Option.or_none]
/-- g over m -/
def wOver (m g : WM) : WM := g.foldl (fun acc q => wPut acc q.1 q.2) m
theorem mergeK_w (m g : WM) : mergeK (mK m) (mK g) = mK (wOver m g) := by
  induction g generalizing m with
  | nil => rfl
  | cons q r ih =>
    show mergeK (putK (mK m) (Sum.inr q.1) (.int q.2)) (mK r) = mK (wOver (wPut m q.1 q.2) r)
    rw [putK_w, ih]
theorem nodup_put {m : WM} (h : (wKeys m).Nodup) (k : Str) (n : Int) : (wKeys (wPut m k n)).Nodup := by
  rw [wKeys_put]
  by_cases e : k ∈ wKeys m
  · rw [if_pos e]
    exact h
  · rw [if_neg e]
    refine List.nodup_append.mpr ⟨h, by simp, fun x hx y hy z => ?_⟩
    rw [List.mem_singleton.mp hy] at z
    exact e (z ▸ hx)
theorem nodup_over {m : WM} (h : (wKeys m).Nodup) (g : WM) : (wKeys (wOver m g)).Nodup := by
  induction g generalizing m with
  | nil => exact h
  | cons q r ih => exact ih (nodup_put h q.1 q.2)
theorem wGet_over {m g : WM} (h : (wKeys g).Nodup) (k : Str) : wGet (wOver m g) k = (wGet g k).or (wGet m k) := by
  induction g generalizing m with
  | nil => rw [wGet_nil]; rfl
  | cons q r ih =>
    have h' : (q.1 :: wKeys r).Nodup := h
    rw [List.nodup_cons] at h'
    show wGet (wOver (wPut m q.1 q.2) r) k = _
    rw [ih h'.2, wGet_put, wGet_cons]
    by_cases e : q.1 = k
    · rw [if_pos e, if_pos e, wGet_none.mpr (by rw [← e]; exact h'.1)]
      rfl
    · rw [if_neg e, if_neg e]
theorem wKeys_over {m g : WM} (h : ∀ k ∈ wKeys g, k ∈ wKeys m) : wKeys (wOver m g) = wKeys m := by
  induction g generalizing m with
  | nil => rfl
  | cons q r ih =>
    have hq : q.1 ∈ wKeys m := h _ List.mem_cons_self
    have e : wKeys (wPut m q.1 q.2) = wKeys m := by rw [wKeys_put, if_pos hq]
    show wKeys (wOver (wPut m q.1 q.2) r) = _
    rw [ih (fun k hk => by rw [e]; exact h _ (List.mem_cons_of_mem _ hk)), e]
/-- a map is told by its keys and what is got -/
theorem w_ext {m : WM} (hn : (wKeys m).Nodup) : m = (wKeys m).map fun k => (k, (wGet m k).getD 0) := by
  have key : ∀ l : WM, (∀ q ∈ l, q ∈ m) → l = (wKeys l).map fun k => (k, (wGet m k).getD 0) := by
    intro l
    induction l with
    | nil => intro _; rfl
    | cons q r ih =>
      intro hl
      show q :: r = (q.1, (wGet m q.1).getD 0) :: _
      rw [wGet_mem hn (hl q List.mem_cons_self)]
      exact congrArg _ (ih fun x hx => hl x (List.mem_cons_of_mem _ hx))
  exact key m fun _ h => h
theorem okM_put {m : WM} (h : okM m) {k : Str} {n : Int} (hk : isWord k = true) (hn : isValue n = true) : okM (wPut m k n) := by
  refine ⟨fun q hq => ?_, nodup_put h.2 k n⟩
  unfold wPut at hq
  split at hq
  · obtain ⟨p, hp, rfl⟩ := List.mem_map.mp hq
    by_cases e : p.1 = k
    · rw [if_pos e]
      exact ⟨hk, hn⟩
    · rw [if_neg e]
      exact h.1 p hp
  · rcases List.mem_append.mp hq with hq | hq
    · exact h.1 q hq
    · rw [List.mem_singleton.mp hq]
      exact ⟨hk, hn⟩
theorem okM_over {m g : WM} (h : okM m) (hg : ∀ q ∈ g, isWord q.1 = true ∧ isValue q.2 = true) : okM (wOver m g) := by
  induction g generalizing m with
  | nil => exact h
  | cons q r ih =>
    obtain ⟨h1, h2⟩ := hg q List.mem_cons_self
    exact ih (okM_put h h1 h2) fun x hx => hg x (List.mem_cons_of_mem _ hx)
theorem wOver_nil {m : WM} (hn : (wKeys m).Nodup) : wOver [] m = m := by
  have key : ∀ (g acc : WM), (wKeys (acc ++ g)).Nodup → wOver acc g = acc ++ g := by
    intro g
    induction g with
    | nil => intro acc _; rw [List.append_nil]; rfl
    | cons q r ih =>
      intro acc h
      have hq : q.1 ∉ wKeys acc := by
        unfold wKeys at h ⊢
        rw [List.map_append, List.nodup_append] at h
        exact fun z => h.2.2 q.1 z q.1 List.mem_cons_self rfl
      have e : wPut acc q.1 q.2 = acc ++ [q] := by unfold wPut; rw [if_neg hq]
      show wOver (wPut acc q.1 q.2) r = _
      rw [e, ih (acc ++ [q]) (by rw [List.append_assoc]; exact h), List.append_assoc]
      rfl
  exact key m [] hn
/-! ### ascending keys are one alone -/
theorem sort_one {m m2 : WM} (p : m2.Perm m) (hn : (wKeys m).Nodup) (s1 : sortedS (wKeys m) = true) (s2 : sortedS (wKeys m2) = true) : m2 = m := by
  have n2 : (wKeys m2).Nodup := (p.map _).nodup_iff.mpr hn
  have e : wKeys m2 = wKeys m := pw_one (sorted_pw s2) (sorted_pw s1) n2 hn fun k => (p.map (·.1)).mem_iff
  rw [w_ext n2, w_ext hn, e]
  exact List.map_congr_left fun k _ => by rw [wGet_perm hn p k]
end RM

set_option Elab.async false
set_option linter.all false
set_option maxRecDepth 100000
set_option maxHeartbeats 2000000
namespace RM
open PySem PySem.Spec PyProof.Rows L2
theorem room0 {k : Nat} {A : Around} (hr : Room k A) : A.units < cLine := by have := hr.un; omega
theorem rd_lock {H : Hp} {b p : Addr} {u v : HO} {od : Obj} (hb : H b = some u) (hp : H p = some v) : Rd (upd H p (.frz od v)) b u := by
  by_cases e : b = p
  · rw [e, hp] at hb
    cases hb
    rw [e]
    exact .inr ⟨od, upd_same⟩
  · exact .inl (by rw [upd_ne e]; exact hb)
theorem same_back {H H' : Hp} {p : Addr} {u : HO} {od : Obj} (hp : H p = some u) (e : Same (upd H p (.frz od u)) H') : Same H (upd H' p u) := fun b o hb => by
  by_cases z : b = p
  · rw [z] at hb ⊢
    rw [upd_same, ← hb, hp]
  · rw [upd_ne z]
    exact e _ _ (by rw [upd_ne z]; exact hb)
section
variable {P : Program} {w : World} {K : PySem.W.Frag} {mg : Str → Option Value} {base : Heap}
def ChgAt (K : PySem.W.Frag) (H : Hp) (a : Addr) (m : WM) : Prop := MapAt H (He.ga K "Change") "given" a m ∧ m.length ≤ 4
theorem ChgAt.keep {H H' : Hp} {a : Addr} {m : WM} (e : Same H H') (h : ChgAt K H a m) : ChgAt K H' a m := ⟨h.1.keep e, h.2⟩
theorem ChgAt.ok {H : Hp} {a : Addr} {m : WM} (h : ChgAt K H a m) : okM m ∧ sortedS (wKeys m) = true := let ⟨⟨_, _, _, _, a, b⟩, _⟩ := h; ⟨a, b⟩
/-! ### settings -/
def spSettings (K : PySem.W.Frag) : Sp := fun vs H Q _ => match vs with
  | [x] => ∃ a m, x = .ref a ∧ ChgAt K H a m ∧ ∀ p H', Same H H' → H p = none → H' p = some (.dK (mK m)) → Q (.ref p) H'
  | _ => False
theorem sc_Change_settings : FnScope ["self", "key"] ["self"] (defScope s_Change_settings) := ⟨rfl, rfl, rfl, by decide +kernel, rfl, by decide +kernel, by decide +kernel⟩
theorem c_Change_settings (T : Top w K mg) : Met P w K mg base CX0 2 (He.ga K "Change") "settings" (spSettings K) := by
  refine met_0 (f_Change_settings T) (k_Change T) (me_Change_settings T) sc_Change_settings (fun _ _ _ _ _ _ us hl => match us, hl with | [_], _ => rfl) (fun vs H Q E h => match vs, h with | [_], _ => rfl) (fun cdv A outer s H vs Q E hr h => ?_)
  match vs, h with
  | [x], h =>
  obtain ⟨a, m, rfl, ⟨⟨dx, p, ha, hp, hg, hs⟩, hl⟩, q⟩ := h
  refine ⟨_, (pss_one (ps_ret (pe_lock (pe_dc (own := [("key", 1)]) rfl sc_Change_settings.nd (pi_keys (pe_fld (pv 0) rfl)) (blkOk_by (own := [("key", 1)]) (N := ["self", "key"]) (sc := defScope s_Change_settings) (by decide +kernel)) (fun _ _ _ _ _ => (pg_name (i := 1) sc_Change_settings.nd rfl (Or.inl rfl) (Or.inr rfl))) (fun _ _ _ _ _ => pts_nil) (fun _ _ _ _ _ => (pv 1)) (fun _ _ _ _ _ => (pe_dget (hu_of hr) (pe_fld' (K := K) rfl (pv 0) rfl) (pv 1) (fun _ _ => rfl))))))), ?_⟩
  have pa : a ≠ p := fun z => by
    rw [z, hp] at ha
    cases ha
  refine ⟨p, .dK (mK m), hp, trivial, fun od => ?_⟩
  have haL : (upd H p (.frz od (.dK (mK m)))) a = some (.ins (He.ga K "Change") dx [("given", .ref p)]) := by rw [upd_ne pa]; exact ha
  refine ⟨_, rfl, a, _, dx, _, _, rfl, haL, k_Change T, na_Change_given T, rfl, p, od, rfl, .inl ⟨mK m, upd_same, fun D nD => ?_⟩⟩
  have lm : (mK m).length = m.length := List.length_map ..
  refine dc_walk walk_keys (fun i H' => Same (upd H p (.frz od (.dK (mK m)))) H' ∧ H' D = some (.dK (mK (m.take i)))) ⟨smNew1 nD _, upd_same⟩ (fun i H' _ h => h.1 _ _ upd_same) ?_ ?_
  · rintro i x H1 H2 hi ⟨e, hD⟩ ⟨rfl, k, v, hk, rfl⟩
    obtain ⟨z, hz, rfl, rfl⟩ := mK_get hk
    have hm := List.mem_of_getElem? hz
    have il := (List.getElem?_eq_some_iff.mp hz).1
    refine ⟨rfl, yesI ?_⟩
    refine ⟨_, rfl, _, rfl, a, _, dx, _, _, rfl, e _ _ haL, k_Change T, na_Change_given T, rfl, _, rfl, p, .int z.2, rfl, .inl ⟨mK m, .inr z.1, .inr ⟨od, e _ _ upd_same⟩, rfl, (valV_mK hg.2 z hm).symm⟩, mK (m.take i), .inr z.1, rfl, hD, small1000 ?_, ?_⟩
    · show ((m.take i).map _).length ≤ 1000
      rw [List.length_map, List.length_take]
      omega
    · have hne : z.1 ∉ (m.take i).map (·.1) := by
        intro hin
        obtain ⟨j, hj, ej⟩ := List.mem_iff_getElem.mp hin
        rw [List.getElem_map, List.getElem_take] at ej
        have jl : j < i := by rw [List.length_map, List.length_take] at hj; omega
        have e2 : (m.map (·.1))[j]'(by rw [List.length_map]; omega) = (m.map (·.1))[i]'(by rw [List.length_map]; omega) := by
          rw [List.getElem_map, List.getElem_map, ej, (List.getElem?_eq_some_iff.mp hz).2]
        have := (List.getElem_inj (h₀ := by rw [List.length_map]; omega) (h₁ := by rw [List.length_map]; omega) hg.2).mp e2
        omega
      rw [put_new hne]
      refine ⟨smOut e nD _, ?_⟩
      rw [upd_same, List.take_add_one, hz]
      rfl
  · rintro H1 ⟨e, hD⟩
    rw [lm, List.take_length] at hD
    have eH := e _ _ (upd_same : (upd H p (.frz od (.dK (mK m)))) p = _)
    have Dp : D ≠ p := fun z => by
      rw [z] at hD
      rw [hD] at eH
      cases eH
    refine ⟨eH, q D _ (same_back hp e) ?_ (by rw [upd_ne Dp]; exact hD)⟩
    rw [upd_ne Dp] at nD
    exact nD
/-! ### == of equal changes -/
def spCEq (K : PySem.W.Frag) : Sp := fun vs H Q _ => match vs with
  | [x, y] => ∃ a b m, x = .ref a ∧ y = .ref b ∧ ChgAt K H a m ∧ ChgAt K H b m ∧ Q (.bl true) H
  | _ => False
theorem sc_Change_eq : FnScope ["self", "other"] ["self", "other"] (defScope s_Change_eq) := ⟨rfl, rfl, rfl, by decide +kernel, rfl, by decide +kernel, by decide +kernel⟩
theorem o_Change_eq (T : Top w K mg) : Own P w K mg base 1 (He.ga K "Change") "__eq__" (spCEq K) := by
  refine own_0 (f_Change_eq T) (spc_Change_eq T) sc_Change_eq (fun _ _ _ _ _ _ us hl => match us, hl with | [_, _], _ => rfl) (fun vs H Q E h => match vs, h with | [_, _], _ => rfl) (fun cdv A outer s H vs Q E hr h => ?_)
  match vs, h with
  | [x, y], h =>
  obtain ⟨a, b, m, rfl, rfl, ⟨⟨dx, p, ha, hp, okm, sm⟩, l4⟩, ⟨⟨dy, p2, hb, hp2, _, _⟩, _⟩, q⟩ := h
  refine ⟨_, (pss_cons (ps_if (pt_not (pt_val (pcb (z_isinstance T) call_isi boot_isinstance (pa_cons (pv 1) (pa_cons (pglR (g_Change T)) pa_nil)))))
      (pss_one ps_never)
      pss_nil)
    (pss_one (ps_ret (pe_cmpR (op_eq_dictA (room0 hr)) (pe_fld (pv 0) rfl) (pe_fld (pv 1) rfl) (nomark _))))), ?_⟩
  refine ⟨_, rfl, _, _, _, _, true, rfl, .own _, .base (insB_ty (ins_Change T) (k_Change T) hb), kitC_ok (kit_Change_Change T), ?_⟩
  refine ⟨_, rfl, ifF rfl ?_⟩
  refine ⟨_, rfl, a, _, dx, _, _, rfl, ha, k_Change T, na_Change_given T, rfl, _, rfl, b, _, dy, _, _, rfl, hb, k_Change T, na_Change_given T, rfl, ?_⟩
  refine ⟨p, p2, mK m, mK m, rfl, rfl, hp, hp2, rfl, fun q hq => ?_, q⟩
  obtain ⟨z, hz, rfl⟩ := List.mem_map.mp hq
  exact ⟨valV_mK okm.2 z hz, rfl⟩
end
end RM

set_option Elab.async false
set_option linter.all false
set_option maxRecDepth 100000
set_option maxHeartbeats 2000000
/-! own rules of texts: spaces, str of either, replace behind a number, zip(list, text) -/
namespace RM
open PySem PySem.Spec PyProof.Rows L2
/-! ### n spaces -/
def spc (n : Nat) : Str := ⟨(List.replicate n 32).toArray⟩
theorem spc_list (n : Nat) : (spc n).cps.toList = List.replicate n 32 := rfl
theorem spc_len (n : Nat) : (spc n).length = n := by
  show (List.replicate n 32).toArray.size = n
  simp
theorem blank_list : (" " : Str).cps.toList = [32] := by decide +kernel
theorem fold_blank : ∀ (n : Nat) (acc : Array Nat), ((List.replicate n (" " : Str).cps).foldl (· ++ ·) acc).toList = acc.toList ++ List.replicate n 32
  | 0, acc => by simp
  | n + 1, acc => by
    rw [List.replicate_succ, List.foldl_cons, fold_blank n, Array.toList_append, blank_list, List.replicate_succ, List.append_assoc]
    rfl
theorem str_ext {a b : Str} (h : a.cps.toList = b.cps.toList) : a = b := by
  obtain ⟨⟨x⟩⟩ := a
  obtain ⟨⟨y⟩⟩ := b
  have e : x = y := h
  rw [e]
/-- ' ' * n -/
def rSpc : R2 := fun x y H Q => ∃ n : Nat, x = .str " " ∧ y = .int n ∧ n ≤ 1000 ∧ Q (.str (spc n)) H
theorem op_spc {X : Cx} : OpR X (binaryOp .Mult) rSpc := by
  rintro pins s σ H x y v u Q I rx ry ⟨n, rfl, rfl, hn, q⟩
  obtain ⟨t, rfl⟩ := rx
  obtain ⟨t', rfl⟩ := ry
  have one : (" " : Str).length = 1 := by decide +kernel
  have low : (decide ((n : Int) < -(2 ^ 63 : Int)) || decide ((n : Int) ≥ 2 ^ 63)) = false := by
    rw [decide_eq_false (by omega), decide_eq_false (by omega)]
    rfl
  refine PySem.P.mul_str low (fun _ _ => ?_) (fun _ _ => ?_) ?_
  · rw [one]
    intro h
    have p : (0 : Int) < n := by omega
    have := (Int.ediv_lt_iff_lt_mul p).mp (show (2 ^ 63 - 1) / (n : Int) < 1 from by omega)
    omega
  · rw [one, Nat.one_mul, Int.toNat_natCast]
    exact decide_eq_false (by have := small1000 hn; omega)
  · by_cases h0 : (n : Int) < 1
    · rw [if_pos h0]
      have e : n = 0 := by omega
      subst e
      exact ⟨by decide, .str (spc 0), H, I.tok _, ⟨_, rfl⟩, q⟩
    · rw [if_neg h0]
      by_cases h1 : ((n : Int) == 1 || (" " : Str).length == 0) = true
      · rw [if_pos h1]
        have e : n = 1 := by
          rw [one] at h1
          simp at h1
          omega
        subst e
        have q1 : spc 1 = " " := str_ext (by rw [blank_list]; rfl)
        rw [q1] at q
        exact ⟨.str " ", H, I, ⟨_, rfl⟩, q⟩
      · rw [if_neg h1]
        have e : (⟨(List.replicate (n : Int).toNat (" " : Str).cps).foldl (· ++ ·) #[]⟩ : Str) = spc n := str_ext (by
          show ((List.replicate (n : Int).toNat (" " : Str).cps).foldl (· ++ ·) #[]).toList = _
          rw [fold_blank, Int.toNat_natCast]
          rfl)
        rw [e]
        exact ⟨by rw [spc_len]; exact Nat.le_of_lt (small1000 hn), .str (spc n), H, I.tok _, ⟨_, rfl⟩, q⟩
/-! ### str(x), a text or a number -/
def rStr : List V → Hp → VK → Prop := fun xs H Q => (∃ a, xs = [.str a] ∧ Q (.str a) H) ∨ ∃ i : Int, xs = [.int i] ∧ i.natAbs.log2 < 1920 ∧ Q (.str (toString i)) H
theorem cr_str {X : Cx} : CallR X (.type "str") rStr := by
  intro pins s σ H xs us Q I r h
  rcases h with h | h
  · exact SkE.call_str_str pins s σ H xs us Q I r h
  · exact call_str_int pins s σ H xs us Q I r h
/-! ### text.replace(written, written), a number read ahead of it -/
section
variable {X : Cx} {a b o : Expr} {ta tb to : TE} {pos : Pos}
/-- behind e a token has been given out -/
def PEK (X : Cx) (e : Expr) (te : TE) : Prop := ∀ pins s σ H Q, Inv X pins σ H s → te σ H Q → wpAny (model X.prog X.w) X.A (eval e X.env) (fun u s' => 1 ≤ s'.toks ∧ EP X pins σ Q u s') X.xe s
theorem pek_int {i : Int} {j : Nat} : PEK X (.Constant (.int i) j pos) (tC (.int i)) := fun _ s _ H _ I h => wpAny_Constant_int ⟨Nat.le_add_left 1 s.toks, .int i, H, I.tok _, ⟨_, rfl⟩, h⟩
theorem pek_ix {r : R2} (hr : IxR X r) (ha : PE X a ta) (hb : PEK X b tb) (hs : PlainIx b) : PEK X (.Subscript a b pos) (tOp r ta tb) := by
  intro pins s σ H Q I h
  refine Subscript_ (thn (ha.run pins s σ H _ I h) fun v s1 z => ?_)
  obtain ⟨x, H1, I1, r1, q1⟩ := z
  refine thn (hb pins s1 σ H1 _ I1 q1) fun u s2 z => ?_
  obtain ⟨k, y, H2, I2, r2, q2⟩ := z
  exact wpAny_mono (PySem.wpAny_toks_of k (hr a b pins s2 σ H2 x y v u Q I2 r1 r2 q2 (hs _ _))) (fun _ _ z => z) fun _ _ z => z.2
def tRepl (to : TE) (y z : Str) : TE := fun σ H Q => to σ H fun v H1 => ∃ x, v = .str x ∧ x.length + (x.length + 1) * z.length ≤ 16777216 ∧ Q (.str (Txt.replace x y z)) H1
theorem pe_repl {y z : Str} {j k : Nat} {c0 c1 apos : Pos} (ho : PEK X o to) (ne : (y == z) = false := by decide)
    (two : starEach [.Constant (.str y) j c0, .Constant (.str z) k c1] X.env = [(false, eval (.Constant (.str y) j c0) X.env), (false, eval (.Constant (.str z) k c1) X.env)] := by rfl)
    (plain : attributeBase o "replace" X.env (eval o X.env) = eval o X.env := by rfl) (line : (apos.endLine == pos.line) = true := by rfl) :
    PE X (.Call (.Attribute o "replace" apos) [.Constant (.str y) j c0, .Constant (.str z) k c1] [] pos) (tRepl to y z) := by
  constructor
  intro pins s σ H Q I h
  refine PySem.Call_method2 plain two line (thn (ho pins s σ H _ I h) fun v s1 got => ?_)
  obtain ⟨k1, _, H1, I1, r1, x, rfl, few, q⟩ := got
  obtain ⟨tx, rfl⟩ := r1
  refine ⟨"str", "str.replace", PySem.F.plainAttrs_str, PySem.F.slot_str_replace, PySem.F.type_str_replace, typeIs_str _ _ _, nofun, ?_⟩
  refine Calls.callWith_builtin rfl (Calls.evalArgs_plain (Calls.spliced_cons (Calls.Constant_str (Calls.spliced_cons (Calls.Constant_str (Calls.spliced_nil ?_))))))
  refine PySem.SC.replace ?_ ?_ ?_ ne few fun t' n => ⟨.str (Txt.replace x y z), H1, I1.tok n, ⟨t', rfl⟩, q⟩
  · exact fun z => by rw [z] at k1; cases k1
  · exact Nat.succ_ne_zero _
  · exact Nat.ne_of_lt (Nat.lt_succ_self _)
end
end RM

set_option Elab.async false
set_option linter.all false
set_option maxRecDepth 100000
set_option maxHeartbeats 2000000
/-! texts of programs: lines, and what is read of a line -/
namespace RM
open PySem PySem.Spec PyProof.Rows L2
abbrev cl (z : Str) : List Nat := z.cps.toList
theorem cl_app (a b : Str) : cl (a ++ b) = cl a ++ cl b := TL.tl_append a b
theorem cl_len (z : Str) : (cl z).length = z.length := by show z.cps.toList.length = z.cps.size; simp
/-! ### numbers as texts -/
def numT (n : Int) : Str := toString n
def isDig (c : Nat) : Bool := decide (c ∈ cl "0123456789")
/-- the figures of a word: without a sign -/
def figs (z : Str) : List Nat := if (cl z).take 1 = [45] then (cl z).drop 1 else cl z
def numOf (z : Str) : Option Int :=
  if (figs z).length = 0 ∨ 2 < (figs z).length ∨ ((figs z)[0]? = some 48 ∧ cl z ≠ [48]) ∨ (figs z).all isDig = false then none else PySem.intText? z
def valsL : List Int := (List.range 199).map fun (k : Nat) => (k : Int) - 99
theorem vals_mem {n : Int} (h : isValue n = true) : n ∈ valsL := by
  unfold isValue at h
  rw [Bool.and_eq_true, decide_eq_true_eq, decide_eq_true_eq] at h
  exact List.mem_map.mpr ⟨(n + 99).toNat, List.mem_range.mpr (by omega), by show (((n + 99).toNat : Nat) : Int) - 99 = n; omega⟩
def numChk (n : Int) : Bool := decide (numOf (numT n) = some n) && (decide ((cl (numT n)).length ≤ 3) && (decide (1 ≤ (cl (numT n)).length) && (cl (numT n)).all fun c => decide (c ≠ 32) && (decide (c ≠ 10) && decide (c < 128))))
theorem num_all : valsL.all numChk = true := by decide +kernel
theorem num_chk {n : Int} (h : isValue n = true) : numChk n = true := List.all_eq_true.mp num_all n (vals_mem h)
theorem num_back {n : Int} (h : isValue n = true) : numOf (numT n) = some n := by
  have := num_chk h
  unfold numChk at this
  rw [Bool.and_eq_true] at this
  exact of_decide_eq_true this.1
/-- one or two figures, with or without a sign: a value -/
def figChk (l : List Nat) : Bool := match PySem.intText? ⟨l.toArray⟩, PySem.intText? ⟨(45 :: l).toArray⟩ with
  | some a, some b => isValue a && isValue b
  | _, _ => false
def figL : List (List Nat) := ((List.range 10).map fun a => [48 + a]) ++ (List.range 10).flatMap fun a => (List.range 10).map fun b => [48 + a, 48 + b]
theorem fig_all : figL.all figChk = true := by decide +kernel
theorem dig_lt {c : Nat} (h : isDig c = true) : ∃ a, a < 10 ∧ c = 48 + a := by
  have e : ∀ c ∈ cl "0123456789", c - 48 < 10 ∧ c = 48 + (c - 48) := by decide +kernel
  exact ⟨c - 48, e c (of_decide_eq_true h)⟩
theorem fig_mem {l : List Nat} (h0 : l.length ≠ 0) (h2 : ¬ 2 < l.length) (h : l.all isDig = true) : l ∈ figL := by
  match l, h0, h2, h with
  | [c], _, _, h =>
    simp only [List.all_cons, List.all_nil, Bool.and_true] at h
    obtain ⟨a, ha, rfl⟩ := dig_lt h
    exact List.mem_append.mpr (.inl (List.mem_map.mpr ⟨a, List.mem_range.mpr ha, rfl⟩))
  | [c, d], _, _, h =>
    simp only [List.all_cons, List.all_nil, Bool.and_true, Bool.and_eq_true] at h
    obtain ⟨a, ha, rfl⟩ := dig_lt h.1
    obtain ⟨b, hb, rfl⟩ := dig_lt h.2
    exact List.mem_append.mpr (.inr (List.mem_flatMap.mpr ⟨a, List.mem_range.mpr ha, List.mem_map.mpr ⟨b, List.mem_range.mpr hb, rfl⟩⟩))
  | [], h0, _, _ => exact absurd rfl h0
  | _ :: _ :: _ :: _, _, h2, _ => exact absurd (by simp) h2
theorem fig_int {z : Str} (h0 : (figs z).length ≠ 0) (h2 : ¬ 2 < (figs z).length) (h : (figs z).all isDig = true) : ∃ n, PySem.intText? z = some n ∧ isValue n = true := by
  have c := List.all_eq_true.mp fig_all _ (fig_mem h0 h2 h)
  unfold figChk at c
  have e : z = ⟨(figs z).toArray⟩ ∨ z = ⟨(45 :: figs z).toArray⟩ := by
    unfold figs
    split
    · rename_i e
      refine .inr (str_ext ?_)
      show cl z = 45 :: (cl z).drop 1
      have := List.take_append_drop 1 (cl z)
      rw [e] at this
      exact this.symm
    · exact .inl (str_ext rfl)
  split at c
  · rename_i a b ea eb
    rw [Bool.and_eq_true] at c
    rcases e with e | e
    · rw [e]; exact ⟨a, ea, c.1⟩
    · rw [e]; exact ⟨b, eb, c.2⟩
  · cases c
theorem numOf_val {z : Str} {n : Int} (h : numOf z = some n) : isValue n = true := by
  unfold numOf at h
  split at h
  · cases h
  · rename_i c
    simp only [not_or, Bool.not_eq_false] at c
    obtain ⟨m, e, v⟩ := fig_int c.1 c.2.1 c.2.2.2
    rw [e] at h
    cases h
    exact v
/-! ### words of a line -/
def tokD : PyData → Str
  | .str z => z
  | .int n => numT n
  | _ => ""
def Stm.toks (s : Stm) : List Str := s.word :: s.flats.map tokD
/-- no blank, no line feed, not empty, not long -/
def tokOk (z : Str) : Bool := decide (1 ≤ (cl z).length) && (decide ((cl z).length ≤ 6) && (cl z).all fun c => decide (c ≠ 32) && (decide (c ≠ 10) && decide (c < 128)))
theorem tok_word {z : Str} (h : isWord z = true) : tokOk z = true := by
  unfold isWord at h
  rw [Bool.and_eq_true, Bool.and_eq_true] at h
  unfold tokOk
  rw [cl_len, h.1.1, h.1.2]
  show (cl z).all _ = true
  refine List.all_eq_true.mpr fun c hc => ?_
  have a : ∀ c ∈ cl "abcdefghijklmnopqrstuvwxyz", (decide (c ≠ 32) && (decide (c ≠ 10) && decide (c < 128))) = true := by decide +kernel
  exact a c (of_decide_eq_true (List.all_eq_true.mp h.2 c hc))
theorem tok_num {n : Int} (h : isValue n = true) : tokOk (numT n) = true := by
  have c := num_chk h
  unfold numChk at c
  simp only [Bool.and_eq_true, decide_eq_true_eq] at c
  unfold tokOk
  simp only [Bool.and_eq_true, decide_eq_true_eq]
  obtain ⟨_, c2, c3, c4⟩ := c
  exact ⟨c3, by omega, c4⟩
theorem words_ok : ∀ z ∈ (["read", "set", "copy", "print", "say", "wait", "if", "same", "repeat", "stop"] : List Str), tokOk z = true ∧ z ≠ "else" := by decide +kernel
theorem word_mem (s : Stm) : s.word ∈ (["read", "set", "copy", "print", "say", "wait", "if", "same", "repeat", "stop"] : List Str) := by cases s <;> simp [Stm.word]
theorem toks_ok {s : Stm} (h : wl s = true) : ∀ z ∈ s.toks, tokOk z = true := by
  intro z hz
  rcases List.mem_cons.mp hz with e | hz
  · rw [e]; exact (words_ok _ (word_mem s)).1
  · obtain ⟨d, hd, e⟩ := List.mem_map.mp hz
    subst e
    have t : ∀ n : Int, 0 ≤ n → n ≤ 3 → isValue n = true := fun n a b => isValue_rep (by rw [decide_eq_true a, decide_eq_true b]; rfl)
    cases s <;> simp only [Stm.flats, List.mem_cons, List.not_mem_nil, or_false] at hd <;> simp only [wl, Bool.and_eq_true, decide_eq_true_eq] at h
    all_goals first
      | exact hd.elim
      | (rcases hd with rfl | rfl
         · exact tok_word h.1
         · first | exact tok_word h.2 | exact tok_num h.2)
      | (subst hd; first | exact tok_word h | exact tok_num h | exact tok_num (t _ h.1 h.2))
theorem toks_len (s : Stm) : s.toks.length ≤ 3 := by cases s <;> simp [Stm.toks, Stm.flats]
/-! ### lines -/
def line (i : Nat) (toks : List Str) : Str := spc i ++ Txt.join " " toks
def elseL (i : Nat) : Str := spc i ++ "else"
mutual
def lnS (i : Nat) : Stm → List Str
  | .ite v n a b => line i (Stm.ite v n a b).toks :: (lnB (i + 2) a ++ elseL i :: lnB (i + 2) b)
  | .same v u a b => line i (Stm.same v u a b).toks :: (lnB (i + 2) a ++ elseL i :: lnB (i + 2) b)
  | .rep n a => line i (Stm.rep n a).toks :: lnB (i + 2) a
  | .read v k => [line i (Stm.read v k).toks]
  | .set v n => [line i (Stm.set v n).toks]
  | .copy v u => [line i (Stm.copy v u).toks]
  | .print v => [line i (Stm.print v).toks]
  | .say n => [line i (Stm.say n).toks]
  | .wait => [line i Stm.wait.toks]
  | .stop => [line i Stm.stop.toks]
def lnB (i : Nat) : List Stm → List Str
  | [] => []
  | s :: r => lnS i s ++ lnB i r
end
/-- the lines behind the statement's own -/
def lnR (i : Nat) : List (List Stm) → List Str
  | [] => []
  | [a] => lnB (i + 2) a
  | a :: b :: _ => lnB (i + 2) a ++ elseL i :: lnB (i + 2) b
theorem lnS_eq (i : Nat) (s : Stm) : lnS i s = line i s.toks :: lnR i s.bodies := by cases s <;> simp [lnS, lnR, Stm.bodies]
theorem lnB_app (i : Nat) : ∀ (l m : List Stm), lnB i (l ++ m) = lnB i l ++ lnB i m
  | [], m => by simp [lnB]
  | s :: r, m => by rw [List.cons_append, lnB, lnB, lnB_app i r m, List.append_assoc]
theorem lnB_take {i : Nat} {l : List Stm} {j : Nat} {s : Stm} (h : l[j]? = some s) : lnB i (l.take (j + 1)) = lnB i (l.take j) ++ lnS i s := by
  rw [take_more h, lnB_app]
  simp [lnB]
theorem join_one (a : Str) : Txt.join " " [a] = a := by rw [TL.join_eq]; rfl
theorem join_cl : ∀ (a : Str) (r : List Str), ∃ m, cl (Txt.join " " (a :: r)) = cl a ++ m
  | a, [] => ⟨[], by rw [join_one, List.append_nil]⟩
  | a, b :: r => by
    refine ⟨[32] ++ TL.joinL [32] ((b :: r).map TL.tl), ?_⟩
    show TL.tl (Txt.join " " (a :: b :: r)) = _
    rw [TL.join_eq, TL.tl_join]
    rw [show TL.tl (" " : Str) = [32] from blank_list]
    rfl
/-- a line's text behind its blanks begins with a letter -/
theorem join_head {a : Str} {r : List Str} (h : tokOk a = true) : ∃ c m, cl (Txt.join " " (a :: r)) = c :: m ∧ c ≠ 32 := by
  obtain ⟨m, e⟩ := join_cl a r
  unfold tokOk at h
  simp only [Bool.and_eq_true, decide_eq_true_eq, List.all_eq_true] at h
  cases hc : cl a with
  | nil => rw [hc] at h; exact absurd h.1 (by simp)
  | cons c r' =>
    rw [hc] at e h
    exact ⟨c, r' ++ m, e, (h.2.2 c List.mem_cons_self).1⟩
theorem split_toks {toks : List Str} (hne : toks ≠ []) (h : ∀ z ∈ toks, tokOk z = true) : Txt.split (Txt.join " " toks) " " = toks := by
  refine TL.split_join (s := 32) (S := []) blank_list (by decide +kernel) hne fun p hp z => ?_
  have t := h p hp
  unfold tokOk at t
  simp only [Bool.and_eq_true, decide_eq_true_eq, List.all_eq_true] at t
  exact (t.2.2 32 z).1 rfl
theorem cl_spc (n : Nat) : cl (spc n) = List.replicate n 32 := rfl
theorem cut_pre (z : Str) (j : Nat) : cl (cutS z none (some (j : Int))) = (cl z).take j := by
  show ((cl z).drop _).take _ = _
  rw [HT.sIx_none, HT.sIx_nat, List.drop_zero, Nat.sub_zero, ← cl_len, ← List.take_eq_take_min]
theorem cut_suf (z : Str) (j : Nat) : cl (cutS z (some (j : Int)) none) = (cl z).drop j := by
  show ((cl z).drop _).take _ = _
  rw [HT.sIx_none, HT.sIx_nat, ← cl_len]
  by_cases h : j ≤ (cl z).length
  · rw [Nat.min_eq_left h, List.take_of_length_le (by rw [List.length_drop]; exact Nat.le_refl _)]
  · rw [Nat.min_eq_right (by omega), Nat.sub_self, List.take_zero, List.drop_of_length_le (by omega)]
theorem cut_front (i : Nat) (t : Str) : cutS (spc i ++ t) none (some (i : Int)) = spc i := by
  refine str_ext ((cut_pre _ _).trans ?_)
  rw [cl_app, List.take_append_of_le_length (by rw [cl_spc]; simp), cl_spc, List.take_replicate, Nat.min_self]
  rfl
theorem cut_back (i : Nat) (t : Str) : cutS (spc i ++ t) (some (i : Int)) none = t := by
  refine str_ext ((cut_suf _ _).trans ?_)
  rw [cl_app, List.drop_append_of_le_length (by rw [cl_spc]; simp), cl_spc, List.drop_replicate, Nat.sub_self]
  rfl
/-- a line of lesser indent does not begin with so many blanks -/
theorem cut_less {i j : Nat} {t : Str} {c : Nat} {m : List Nat} (h : cl t = c :: m) (hc : c ≠ 32) (hj : i < j) : cutS (spc i ++ t) none (some (j : Int)) ≠ spc j := by
  intro e
  have e1 := congrArg cl e
  rw [cut_pre, cl_app, cl_spc, cl_spc, h] at e1
  have e3 := congrArg (fun l => l[i]?) e1
  simp only [List.getElem?_take, if_pos hj, List.getElem?_replicate] at e3
  rw [List.getElem?_append_right (by simp)] at e3
  simp at e3
  exact hc e3
theorem spc_inj {i : Nat} {a b : Str} (h : spc i ++ a = spc i ++ b) : a = b := by
  have e := congrArg cl h
  rw [cl_app, cl_app] at e
  exact str_ext (List.append_cancel_left e)
theorem line_not_else {i : Nat} {s : Stm} (h : wl s = true) : line i s.toks ≠ elseL i := by
  intro e
  have e1 := spc_inj e
  have e2 := split_toks (toks := s.toks) (by simp [Stm.toks]) (toks_ok h)
  have e3 := split_toks (toks := ["else"]) (by simp) (by decide +kernel)
  rw [join_one] at e3
  rw [e1, e3] at e2
  have e4 : ("else" : Str) = s.word := by
    unfold Stm.toks at e2
    injection e2
  exact (words_ok _ (word_mem s)).2 e4.symm
theorem else_cl : ∃ c m, cl "else" = c :: m ∧ c ≠ 32 := ⟨101, [108, 115, 101], by decide +kernel, by decide⟩
/-! ### where a body ends -/
def Stops (i : Nat) (rest : List Str) : Prop := rest = [] ∨ ∃ z r, rest = z :: r ∧ (cutS z none (some (i : Int)) ≠ spc i ∨ z = elseL i)
theorem stops_else (i : Nat) (r : List Str) : Stops (i + 2) (elseL i :: r) := by
  obtain ⟨c, m, h, hc⟩ := else_cl
  exact .inr ⟨_, _, rfl, .inl (cut_less h hc (by omega))⟩
theorem head_line {s : Stm} (h : wl s = true) : ∃ c m, cl (Txt.join " " s.toks) = c :: m ∧ c ≠ 32 := join_head (toks_ok h _ (by simp [Stm.toks]))
theorem stops_body {i : Nat} {l : List Stm} {rest : List Str} (hw : wB l = true) (h : Stops i rest) : Stops (i + 2) (lnB i l ++ rest) := by
  cases l with
  | nil =>
    rw [lnB, List.nil_append]
    rcases h with h | ⟨z, r, rfl, h | h⟩
    · exact .inl h
    · refine .inr ⟨z, r, rfl, .inl fun e => h ?_⟩
      -- so many blanks are fewer blanks too
      have e1 : (cl z).take (i + 2) = List.replicate (i + 2) 32 := by
        have e2 := congrArg cl e
        rwa [cut_pre, cl_spc] at e2
      refine str_ext ((cut_pre _ _).trans ?_)
      have e2 := congrArg (List.take i) e1
      rw [List.take_take, Nat.min_eq_left (by omega), List.take_replicate, Nat.min_eq_left (by omega)] at e2
      exact e2
    · rw [h]
      exact stops_else i r
  | cons s r =>
    rw [lnB, lnS_eq, List.cons_append, List.cons_append]
    have hs : wl s = true := wl_of (wB_all hw s List.mem_cons_self)
    obtain ⟨c, m, h, hc⟩ := head_line hs
    exact .inr ⟨_, _, rfl, .inl (cut_less h hc (by omega))⟩
/-! ### sizes -/
theorem joinL_len (S : List Nat) : ∀ ps : List (List Nat), (TL.joinL S ps).length ≤ (ps.map List.length).sum + ps.length * S.length
  | [] => by simp [TL.joinL]
  | [p] => by simp [TL.joinL]
  | p :: q :: r => by
    have ih := joinL_len S (q :: r)
    show (p ++ (S ++ TL.joinL S (q :: r))).length ≤ _
    rw [List.length_append, List.length_append, List.map_cons, List.sum_cons, List.length_cons, Nat.add_mul]
    omega
theorem toks_sum {s : Stm} (h : wl s = true) : (s.toks.map (·.length)).sum ≤ 18 := by
  have e : ∀ z ∈ s.toks, z.length ≤ 6 := fun z hz => by
    have t := toks_ok h z hz
    unfold tokOk at t
    simp only [Bool.and_eq_true, decide_eq_true_eq, cl_len] at t
    exact t.2.1
  have g : ∀ l : List Str, (∀ z ∈ l, z.length ≤ 6) → (l.map (·.length)).sum ≤ 6 * l.length := by
    intro l
    induction l with
    | nil => intro _; simp
    | cons a r ih =>
      intro hl
      have h1 := hl a List.mem_cons_self
      have h2 := ih fun z hz => hl z (List.mem_cons_of_mem _ hz)
      rw [List.map_cons, List.sum_cons, List.length_cons]
      omega
  have := g _ e
  have := toks_len s
  omega
theorem join_len (parts : List Str) : (Txt.join " " parts).length ≤ (parts.map (·.length)).sum + parts.length := by
  rw [← cl_len, show cl (Txt.join " " parts) = TL.joinL (TL.tl " ") (parts.map TL.tl) from by
    show TL.tl (Txt.join " " parts) = _
    rw [TL.join_eq, TL.tl_join]]
  refine Nat.le_trans (joinL_len _ _) ?_
  rw [show TL.tl (" " : Str) = [32] from blank_list, List.map_map, List.length_map]
  have e : parts.map (List.length ∘ TL.tl) = parts.map (·.length) := List.map_congr_left fun z _ => cl_len z
  rw [e]
  simp
theorem line_len {i : Nat} {s : Stm} (h : wl s = true) : (line i s.toks).length ≤ i + 21 := by
  have h1 := toks_sum h
  have h2 := toks_len s
  have h3 := join_len s.toks
  unfold line
  rw [Str.length_append, spc_len]
  omega
theorem else_len (i : Nat) : (elseL i).length = i + 4 := by
  unfold elseL
  rw [Str.length_append, spc_len]
  have : ("else" : Str).length = 4 := by decide +kernel
  omega
mutual
theorem lnS_cnt (i : Nat) : ∀ s : Stm, (lnS i s).length ≤ 2 * cS s
  | .read .. => by simp [lnS, cS]
  | .set .. => by simp [lnS, cS]
  | .copy .. => by simp [lnS, cS]
  | .print .. => by simp [lnS, cS]
  | .say .. => by simp [lnS, cS]
  | .wait => by simp [lnS, cS]
  | .stop => by simp [lnS, cS]
  | .ite v n a b => by
    have h1 := lnB_cnt (i + 2) a
    have h2 := lnB_cnt (i + 2) b
    simp only [lnS, cS, List.length_cons, List.length_append]
    omega
  | .same v u a b => by
    have h1 := lnB_cnt (i + 2) a
    have h2 := lnB_cnt (i + 2) b
    simp only [lnS, cS, List.length_cons, List.length_append]
    omega
  | .rep n a => by
    have h1 := lnB_cnt (i + 2) a
    simp only [lnS, cS, List.length_cons]
    omega
theorem lnB_cnt (i : Nat) : ∀ l : List Stm, (lnB i l).length ≤ 2 * cB l
  | [] => by simp [lnB]
  | s :: r => by
    have h1 := lnS_cnt i s
    have h2 := lnB_cnt i r
    simp only [lnB, cB, List.length_append]
    omega
end
/-! ### a statement's form without its bodies' signs; its items in two parts -/
def fform (s : Stm) : Str := Txt.replace s.form "b" ""
theorem fform_len (s : Stm) : (fform s).length = s.flats.length := by cases s <;> simp only [fform, Stm.form, Stm.flats, List.length_cons, List.length_nil] <;> decide +kernel
theorem form_small (s : Stm) : s.form.length + (s.form.length + 1) * ("" : Str).length ≤ 16777216 := by cases s <;> simp only [Stm.form] <;> decide +kernel
theorem flats_len (s : Stm) : s.flats.length ≤ 2 := by cases s <;> simp [Stm.flats]
theorem DpAll.app_inv {K : PySem.W.Frag} {H : Hp} : ∀ {ds es : List PyData} {vs : List V}, DpAll K H vs (ds ++ es) → ∃ us ws, vs = us ++ ws ∧ DpAll K H us ds ∧ DpAll K H ws es
  | [], es, vs, h => ⟨[], vs, rfl, .nil, h⟩
  | d :: ds, es, vs, h => by
    obtain ⟨v, r, rfl, h1, h2⟩ := DpAll.cons_inv h
    obtain ⟨us, ws, rfl, h3, h4⟩ := DpAll.app_inv h2
    exact ⟨v :: us, ws, rfl, .cons h1 h3, h4⟩
theorem cut_mid {v : V} {us ws : List V} {k : Nat} (h : us.length = k) : cutV (v :: (us ++ ws)) (some 1) (some ((k : Int) + 1)) = us := by
  subst h
  unfold cutV
  rw [show ((us.length : Int) + 1) = ((us.length + 1 : Nat) : Int) from rfl, HT.sIx_nat, show (1 : Int) = ((1 : Nat) : Int) from rfl, HT.sIx_nat, List.length_cons, List.length_append, Nat.min_eq_left (by omega), Nat.min_eq_left (by omega)]
  show (us ++ ws).take _ = us
  rw [Nat.add_sub_cancel, List.take_append_of_le_length (Nat.le_refl _), List.take_length]
theorem cut_end {v : V} {us ws : List V} {k : Nat} (h : us.length = k) : cutV (v :: (us ++ ws)) (some ((k : Int) + 1)) none = ws := by
  subst h
  unfold cutV
  rw [show ((us.length : Int) + 1) = ((us.length + 1 : Nat) : Int) from rfl, HT.sIx_nat, HT.sIx_none, List.length_cons, List.length_append, Nat.min_eq_left (by omega)]
  show ((us ++ ws).drop us.length).take _ = ws
  rw [List.drop_append_of_le_length (Nat.le_refl _), List.drop_length, List.nil_append, List.take_of_length_le (by omega)]
theorem not_all {v : V} {xs : List V} {k : Nat} {o : Option Int} : ¬ (HT.sIx (v :: xs).length 0 (some ((k : Int) + 1)) = 0 ∧ HT.sIx (v :: xs).length (v :: xs).length o = (v :: xs).length) := by
  rw [show ((k : Int) + 1) = ((k + 1 : Nat) : Int) from rfl, HT.sIx_nat, List.length_cons]
  intro h
  have := h.1
  omega
theorem bodies_cases (s : Stm) : s.bodies = [] ∨ (∃ a, s.bodies = [a]) ∨ ∃ a b, s.bodies = [a, b] := by cases s <;> simp [Stm.bodies]
theorem log_small {i : Int} (h : isValue i = true) : i.natAbs.log2 < 1920 := by
  unfold isValue at h
  rw [Bool.and_eq_true, decide_eq_true_eq, decide_eq_true_eq] at h
  by_cases z : i.natAbs = 0
  · rw [z]; decide
  · exact (Nat.log2_lt z).mpr (Nat.lt_of_le_of_lt (show i.natAbs ≤ 99 by omega) (by decide))
/-- what stands in a statement itself: a word, or a value -/
theorem flat_ok {s : Stm} (h : wl s = true) {d : PyData} (hd : d ∈ s.flats) : (∃ z, d = .str z ∧ isWord z = true) ∨ ∃ n, d = .int n ∧ isValue n = true := by
  have t : ∀ n : Int, 0 ≤ n → n ≤ 3 → isValue n = true := fun n a b => isValue_rep (by rw [decide_eq_true a, decide_eq_true b]; rfl)
  cases s <;> simp only [Stm.flats, List.mem_cons, List.not_mem_nil, or_false] at hd <;> simp only [wl, Bool.and_eq_true, decide_eq_true_eq] at h
  all_goals first
    | exact hd.elim
    | (rcases hd with rfl | rfl
       · exact .inl ⟨_, rfl, h.1⟩
       · first | exact .inl ⟨_, rfl, h.2⟩ | exact .inr ⟨_, rfl, h.2⟩)
    | (subst hd; first | exact .inl ⟨_, rfl, h⟩ | exact .inr ⟨_, rfl, h⟩ | exact .inr ⟨_, rfl, t _ h.1 h.2⟩)
theorem map_at {α β : Type} (l : List α) (f : α → β) : (List.range l.length).filterMap (fun i => (l[i]?).map f) = l.map f := by
  have := congrArg (List.map f) (some_range l)
  rw [List.map_filterMap] at this
  exact this
theorem blank_one : (" " : Str).length = 1 := by decide +kernel
theorem sm_none {H H' : Hp} {p : Addr} (e : Same H H') (h : H' p = none) : H p = none := by
  cases z : H p with
  | none => rfl
  | some o => rw [e p o z] at h; cases h
theorem join_blanks : ∀ n : Nat, Txt.join "" (List.replicate n " ") = spc n := by
  have g : ∀ n : Nat, TL.joinL [] (List.replicate n [32]) = List.replicate n 32 := by
    intro n
    induction n with
    | zero => rfl
    | succ n ih =>
      cases n with
      | zero => rfl
      | succ n =>
        show [32] ++ ([] ++ TL.joinL [] (List.replicate (n + 1) [32])) = _
        rw [ih]
        rfl
  intro n
  refine str_ext ?_
  show TL.tl (Txt.join "" (List.replicate n " ")) = _
  rw [TL.join_eq, TL.tl_join, List.map_replicate, show TL.tl (" " : Str) = [32] from blank_list, show TL.tl ("" : Str) = [] from by decide +kernel, g]
  rfl
theorem blanks_sum (n : Nat) : ((List.replicate n (" " : Str)).map (·.length)).sum = n := by
  rw [List.map_replicate, blank_one, List.sum_replicate_nat]
  omega
/-- the lines of the first bodies -/
theorem lnR_next {i : Nat} {s : Stm} {j : Nat} {b : List Stm} (h : s.bodies[j]? = some b) : lnR i (s.bodies.take (j + 1)) = lnR i (s.bodies.take j) ++ (if j = 1 then [elseL i] else []) ++ lnB (i + 2) b := by
  rcases bodies_cases s with h0 | ⟨a, h0⟩ | ⟨a, c, h0⟩ <;> rw [h0] at h ⊢
  · simp at h
  · match j, h with
    | 0, h => cases h; simp [lnR]
    | j + 1, h => simp at h
  · match j, h with
    | 0, h => cases h; simp [lnR]
    | 1, h => cases h; simp [lnR]
    | j + 2, h => simp at h
end RM

set_option Elab.async false
set_option linter.all false
set_option maxRecDepth 100000
set_option maxHeartbeats 2000000
/-! changes as texts: plain -/
namespace RM
open PySem PySem.Spec PyProof.Rows L2
def wordT (q : Str × Int) : Str := q.1 ++ "=" ++ numT q.2
def lineT (g : WM) : Str := if g.isEmpty = true then "-" else Txt.join " " (g.map wordT)
/-- a word read -/
def rdW (z : Str) : Option (Str × Int) := match Txt.split z "=" with
  | [k, n] => if isWord k = true then (numOf n).map fun i => (k, i) else none
  | _ => none
def below (g : WM) (k : Str) : Bool := g.all fun p => decide (p.1.cps.toList < k.cps.toList)
/-- words read, each one above those before -/
def rdWs : List Str → WM → Option WM
  | [], g => some g
  | z :: r, g => match rdW z with
    | none => none
    | some q => if below g q.1 = true then rdWs r (g ++ [q]) else none
def rdL (z : Str) : Option WM := if z = "-" then some [] else (rdWs (Txt.split z " ") []).bind fun g => if g.length ≤ 4 then some g else none
theorem emp_app (z : Str) : Str.empty ++ z = z := str_ext (by rw [show (Str.empty ++ z).cps.toList = cl (Str.empty ++ z) from rfl, cl_app]; rfl)
/-! ### numbers back -/
def backChk (l : List Nat) : Bool := (match numOf ⟨l.toArray⟩ with | some n => decide (numT n = ⟨l.toArray⟩) | none => true) && (match numOf ⟨(45 :: l).toArray⟩ with | some n => decide (numT n = ⟨(45 :: l).toArray⟩) | none => true)
theorem back_all : figL.all backChk = true := by decide +kernel
theorem num_line {z : Str} {n : Int} (h : numOf z = some n) : numT n = z := by
  have h' := h
  unfold numOf at h'
  split at h'
  · cases h'
  rename_i c
  simp only [not_or, Bool.not_eq_false] at c
  have k := List.all_eq_true.mp back_all _ (fig_mem c.1 c.2.1 c.2.2.2)
  unfold backChk at k
  rw [Bool.and_eq_true] at k
  have e : z = ⟨(figs z).toArray⟩ ∨ z = ⟨(45 :: figs z).toArray⟩ := by
    unfold figs
    split
    · rename_i t
      refine .inr (str_ext ?_)
      show cl z = 45 :: (cl z).drop 1
      rw [← List.take_append_drop 1 (cl z), t]
      rfl
    · exact .inl (str_ext rfl)
  rcases e with e | e
  · have k1 := k.1
    rw [← e, h] at k1
    exact of_decide_eq_true k1
  · have k1 := k.2
    rw [← e, h] at k1
    exact of_decide_eq_true k1
theorem rdW_back {z : Str} {q : Str × Int} (h : rdW z = some q) : wordT q = z ∧ isWord q.1 = true ∧ isValue q.2 = true := by
  unfold rdW at h
  split at h
  · rename_i k n e
    split at h
    · rename_i hk
      obtain ⟨i, hi, rfl⟩ := Option.map_eq_some_iff.mp h
      refine ⟨?_, hk, numOf_val hi⟩
      have j := PySem.StrLaws.join_split z "="
      rw [e] at j
      rw [← j]
      show k ++ "=" ++ numT i = _
      rw [num_line hi]
      refine str_ext ?_
      show cl _ = TL.tl _
      rw [TL.tl_join, cl_app, cl_app, List.append_assoc]
      rfl
    · cases h
  · cases h
theorem rdWs_back : ∀ {zs : List Str} {g m : WM}, rdWs zs g = some m → ∃ t : WM, m = g ++ t ∧ t.map wordT = zs ∧ (∀ q ∈ t, isWord q.1 = true ∧ isValue q.2 = true)
  | [], g, m, h => ⟨[], by injection h with h; rw [← h]; simp, rfl, by simp⟩
  | z :: r, g, m, h => by
    unfold rdWs at h
    split at h
    · cases h
    rename_i q hq
    split at h
    · obtain ⟨t, e, h1, h2⟩ := rdWs_back h
      obtain ⟨a, b⟩ := rdW_back hq
      refine ⟨q :: t, by rw [e, List.append_assoc]; rfl, by rw [List.map_cons, h1, a], fun x hx => ?_⟩
      rcases List.mem_cons.mp hx with rfl | hx
      · exact b
      · exact h2 x hx
    · cases h
/-- rising: each key above those before -/
def Rise (g : WM) : Prop := (wKeys g).Pairwise fun a b => a.cps.toList < b.cps.toList
theorem rise_add {g : WM} {q : Str × Int} (h : Rise g) (b : below g q.1 = true) : Rise (g ++ [q]) := by
  unfold Rise wKeys at *
  rw [List.map_append, List.pairwise_append]
  refine ⟨h, by simp, fun a ha c hc => ?_⟩
  obtain ⟨p, hp, rfl⟩ := List.mem_map.mp ha
  rw [List.map_cons, List.map_nil, List.mem_singleton] at hc
  rw [hc]
  exact of_decide_eq_true (List.all_eq_true.mp b p hp)
theorem rdWs_rise : ∀ {zs : List Str} {g m : WM}, rdWs zs g = some m → Rise g → Rise m
  | [], g, m, h, r => by injection h with h; rw [← h]; exact r
  | z :: rs, g, m, h, r => by
    unfold rdWs at h
    split at h
    · cases h
    rename_i q hq
    split at h
    · rename_i b
      exact rdWs_rise h (rise_add r b)
    · cases h
theorem rise_nodup {g : WM} (h : Rise g) : (wKeys g).Nodup := by
  refine List.Pairwise.imp (R := fun a b : Str => a.cps.toList < b.cps.toList) (fun {a b} c e => ?_) h
  rw [e] at c
  exact List.lt_irrefl _ c
theorem lt_asym {a b : Str} (h : a.cps.toList < b.cps.toList) : ¬ b.cps.toList < a.cps.toList := fun z => List.lt_irrefl _ (List.lt_trans h z)
theorem pw_rising : ∀ (l : List Str) (p : Str), ((p :: l).Pairwise fun a b => a.cps.toList < b.cps.toList) → risingS p l = true
  | [], p, _ => rfl
  | x :: r, p, h => by
    obtain ⟨h1, h2⟩ := List.pairwise_cons.mp h
    show (!ltCps x.cps.toList p.cps.toList && risingS x r) = true
    rw [Bool.and_eq_true, ltCps_eq, decide_eq_false (lt_asym (h1 x List.mem_cons_self))]
    exact ⟨rfl, pw_rising r x h2⟩
theorem rise_sorted {g : WM} (h : Rise g) : sortedS (wKeys g) = true := by
  unfold Rise at h
  cases e : wKeys g with
  | nil => rfl
  | cons x r => rw [e] at h; exact pw_rising r x h
theorem rise_of {g : WM} (hn : (wKeys g).Nodup) (h : sortedS (wKeys g) = true) : Rise g := by
  refine List.Pairwise.imp (R := fun a b : Str => ¬ b.cps.toList < a.cps.toList ∧ a ≠ b) (fun {a b} c => ?_) ((sorted_pw h).and hn)
  rcases Decidable.em (a.cps.toList < b.cps.toList) with z | z
  · exact z
  · exact absurd (str_antisymm c.1 z) c.2
theorem rdWs_app : ∀ (a b : List Str) (g : WM), rdWs (a ++ b) g = (rdWs a g).bind (rdWs b)
  | [], b, g => rfl
  | z :: r, b, g => by
    rw [List.cons_append, rdWs, rdWs]
    split
    · rfl
    · split
      · exact rdWs_app r b _
      · rfl
theorem split_ne (z : Str) : Txt.split z " " ≠ [] := fun h => by
  have := PyProof.Rows.split_pos z " "
  rw [h] at this
  exact absurd this (by decide)
theorem rdL_back {z : Str} {g : WM} (h : rdL z = some g) : lineT g = z ∧ okM g ∧ sortedS (wKeys g) = true ∧ g.length ≤ 4 := by
  unfold rdL at h
  split at h
  · rename_i e
    injection h with h
    rw [← h, e]
    exact ⟨rfl, ⟨by simp, by simp⟩, rfl, by decide⟩
  · obtain ⟨m, hm, h⟩ := Option.bind_eq_some_iff.mp h
    split at h
    · rename_i hl
      injection h with h
      subst h
      obtain ⟨t, e, h1, h2⟩ := rdWs_back hm
      rw [List.nil_append] at e
      subst e
      have r := rdWs_rise hm (show Rise [] from .nil)
      refine ⟨?_, ⟨h2, rise_nodup r⟩, rise_sorted r, hl⟩
      have ne : m ≠ [] := fun e => by
        rw [e] at h1
        have j := PySem.StrLaws.join_split z " "
        rw [← h1] at j
        rw [← h1] at hm
        exact absurd h1.symm (split_ne z)
      have : m.isEmpty = false := by cases m with | nil => exact absurd rfl ne | cons _ _ => rfl
      unfold lineT
      rw [this, if_neg Bool.false_ne_true, h1, TL.join_eq]
      exact PySem.StrLaws.join_split z " "
    · cases h
/-- the last key -/
def lastK (g : WM) : Str := match g.getLast? with
  | none => ""
  | some q => q.1
theorem lastK_add (g : WM) (q : Str × Int) : lastK (g ++ [q]) = q.1 := by unfold lastK; rw [List.getLast?_append]; rfl
theorem emp_lt {k : Str} (h : isWord k = true) : ("" : Str).cps.toList < k.cps.toList := by
  have e : ("" : Str).cps.toList = [] := by decide +kernel
  unfold isWord at h
  rw [Bool.and_eq_true, Bool.and_eq_true] at h
  have l := of_decide_eq_true h.1.1
  rw [← cl_len] at l
  rw [e]
  show [] < cl k
  cases c : cl k with
  | nil => rw [c] at l; exact absurd l (by decide)
  | cons a r => exact List.nil_lt_cons a r
theorem below_last {g : WM} (r : Rise g) {k : Str} (hk : isWord k = true) : below g k = decide ((lastK g).cps.toList < k.cps.toList) := by
  cases e : g.getLast? with
  | none =>
    have : g = [] := List.getLast?_eq_none_iff.mp e
    subst this
    exact (decide_eq_true (emp_lt hk)).symm
  | some q =>
    obtain ⟨t, rfl⟩ : ∃ t, g = t ++ [q] := by
      obtain ⟨t, h⟩ := List.getLast?_eq_some_iff.mp e
      exact ⟨t, h⟩
    rw [lastK_add]
    unfold below
    rw [List.all_append]
    unfold Rise wKeys at r
    rw [List.map_append, List.pairwise_append] at r
    show (_ && (decide (q.1.cps.toList < k.cps.toList) && true)) = _
    rw [Bool.and_true]
    by_cases c : q.1.cps.toList < k.cps.toList
    · rw [decide_eq_true c, Bool.and_true]
      rw [List.all_eq_true]
      intro p hp
      exact decide_eq_true (List.lt_trans (r.2.2 p.1 (List.mem_map.mpr ⟨p, hp, rfl⟩) q.1 (by simp)) c)
    · rw [decide_eq_false c, Bool.and_false]
/-! ### own lines read -/
theorem eq_one : TL.tl ("=" : Str) = [61] := by decide +kernel
theorem feed_one : TL.tl ("\n" : Str) = [10] := by decide +kernel
theorem blank_one' : TL.tl (" " : Str) = [32] := by decide +kernel
theorem word_free {z : Str} (h : isWord z = true) {c : Nat} (hc : c ∈ cl z) : 97 ≤ c ∧ c ≤ 122 := by
  unfold isWord at h
  rw [Bool.and_eq_true] at h
  have := List.all_eq_true.mp h.2 c hc
  have e : ∀ c ∈ cl "abcdefghijklmnopqrstuvwxyz", 97 ≤ c ∧ c ≤ 122 := by decide +kernel
  exact e c (of_decide_eq_true this)
theorem num_signs : valsL.all (fun n => (cl (numT n)).all fun c => decide (c ≠ 61) && (decide (c ≠ 32) && decide (c ≠ 10))) = true := by decide +kernel
theorem num_free {n : Int} (h : isValue n = true) {c : Nat} (hc : c ∈ cl (numT n)) : c ≠ 61 ∧ c ≠ 32 ∧ c ≠ 10 := by
  have := List.all_eq_true.mp (List.all_eq_true.mp num_signs n (vals_mem h)) c hc
  rw [Bool.and_eq_true, Bool.and_eq_true] at this
  exact ⟨of_decide_eq_true this.1, of_decide_eq_true this.2.1, of_decide_eq_true this.2.2⟩
theorem cl_word (q : Str × Int) : cl (wordT q) = cl q.1 ++ ([61] ++ cl (numT q.2)) := by
  unfold wordT
  rw [cl_app, cl_app, List.append_assoc]
  rfl
theorem wordT_join (q : Str × Int) : wordT q = Txt.join "=" [q.1, numT q.2] := by
  refine str_ext ?_
  show cl _ = TL.tl _
  rw [TL.join_eq, TL.tl_join, cl_word]
  rfl
theorem rdW_word {q : Str × Int} (h1 : isWord q.1 = true) (h2 : isValue q.2 = true) : rdW (wordT q) = some q := by
  unfold rdW
  rw [wordT_join, TL.split_join (s := 61) (S := []) eq_one (by decide +kernel) (by simp) (fun p hp z => by
    rcases List.mem_cons.mp hp with rfl | hp
    · have := word_free h1 z; omega
    · rw [List.mem_singleton] at hp
      subst hp
      exact (num_free h2 z).1 rfl)]
  show (if isWord q.1 = true then (numOf (numT q.2)).map fun i => (q.1, i) else none) = _
  rw [if_pos h1, num_back h2]
  rfl
theorem word_signs {q : Str × Int} (h1 : isWord q.1 = true) (h2 : isValue q.2 = true) {c : Nat} (hc : c ∈ cl (wordT q)) : c ≠ 32 ∧ c ≠ 10 := by
  rw [cl_word] at hc
  rcases List.mem_append.mp hc with hc | hc
  · have := word_free h1 hc; omega
  · rcases List.mem_append.mp hc with hc | hc
    · rw [List.mem_singleton] at hc; omega
    · exact (num_free h2 hc).2
theorem rdWs_own : ∀ {t g : WM}, Rise (g ++ t) → (∀ q ∈ t, isWord q.1 = true ∧ isValue q.2 = true) → rdWs (t.map wordT) g = some (g ++ t)
  | [], g, _, _ => by rw [List.append_nil]; rfl
  | q :: t, g, r, h => by
    rw [List.map_cons, rdWs, rdW_word (h q List.mem_cons_self).1 (h q List.mem_cons_self).2]
    have b : below g q.1 = true := by
      unfold Rise wKeys at r
      rw [List.map_append, List.pairwise_append] at r
      refine List.all_eq_true.mpr fun p hp => decide_eq_true ?_
      exact r.2.2 p.1 (List.mem_map.mpr ⟨p, hp, rfl⟩) q.1 (by simp)
    show (if below g q.1 = true then rdWs (t.map wordT) (g ++ [q]) else none) = _
    have e : g ++ q :: t = (g ++ [q]) ++ t := by rw [List.append_assoc]; rfl
    rw [if_pos b, e, rdWs_own (by rw [← e]; exact r) fun x hx => h x (List.mem_cons_of_mem _ hx)]
theorem rdL_own {g : WM} (h : okM g) (s : sortedS (wKeys g) = true) (hl : g.length ≤ 4) : rdL (lineT g) = some g := by
  unfold lineT
  by_cases e : g.isEmpty = true
  · rw [if_pos e]
    rw [List.isEmpty_iff] at e
    subst e
    rfl
  rw [if_neg e]
  have ne : g ≠ [] := fun z => e (by rw [z]; rfl)
  have sp : Txt.split (Txt.join " " (g.map wordT)) " " = g.map wordT := TL.split_join (s := 32) (S := []) blank_one' (by decide +kernel) (by simpa using ne) fun p hp z => by
    obtain ⟨q, hq, rfl⟩ := List.mem_map.mp hp
    exact (word_signs (h.1 q hq).1 (h.1 q hq).2 z).1 rfl
  unfold rdL
  have r := rdWs_own (t := g) (g := []) (rise_of h.2 s) h.1
  rw [List.nil_append] at r
  by_cases d : Txt.join " " (g.map wordT) = "-"
  · exfalso
    have := congrArg (fun z => Txt.split z " ") d
    rw [sp] at this
    have d2 : Txt.split "-" " " = (["-"] : List Str) := by decide +kernel
    rw [d2] at this
    have d3 : rdWs (["-"] : List Str) [] = none := by decide +kernel
    rw [this, d3] at r
    cases r
  · rw [if_neg d, sp, r]
    show (if g.length ≤ 4 then some g else none) = some g
    rw [if_pos hl]
/-! ### parts of a text -/
theorem joinL_part (S : List Nat) : ∀ (ps : List (List Nat)) (p : List Nat), p ∈ ps → p.length ≤ (TL.joinL S ps).length ∧ ∀ c ∈ p, c ∈ TL.joinL S ps
  | [], p, h => by simp at h
  | [a], p, h => by rw [List.mem_singleton] at h; subst h; exact ⟨Nat.le_refl _, fun c hc => hc⟩
  | a :: b :: r, p, h => by
    show p.length ≤ (a ++ (S ++ TL.joinL S (b :: r))).length ∧ ∀ c ∈ p, c ∈ a ++ (S ++ TL.joinL S (b :: r))
    rw [List.length_append, List.length_append]
    rcases List.mem_cons.mp h with rfl | h
    · exact ⟨by omega, fun c hc => List.mem_append_left _ hc⟩
    · obtain ⟨l, m⟩ := joinL_part S (b :: r) p h
      exact ⟨by omega, fun c hc => List.mem_append_right _ (List.mem_append_right _ (m c hc))⟩
theorem split_part {z y w : Str} (h : w ∈ Txt.split z y) : w.length ≤ z.length ∧ ∀ c ∈ cl w, c ∈ cl z := by
  have j : cl z = TL.joinL (TL.tl y) ((Txt.split z y).map TL.tl) := by
    rw [← TL.tl_join, PySem.StrLaws.join_split]
  obtain ⟨a, b⟩ := joinL_part (TL.tl y) _ (TL.tl w) (List.mem_map.mpr ⟨w, h, rfl⟩)
  rw [← j] at a b
  rw [← cl_len, ← cl_len]
  exact ⟨a, b⟩
theorem split_cnt (z y : Str) : (Txt.split z y).length ≤ z.length + 2 := PyProof.Rows.split_le z y
end RM

set_option Elab.async false
set_option linter.all false
set_option maxRecDepth 100000
set_option maxHeartbeats 2000000
/-! tuple(a dict), {**a, **b} -/
namespace RM
open PySem PySem.Spec PyProof.Rows L2
section
variable {X : Cx}
/-- tuple(d): its keys -/
theorem call_tupleD (hcalm : X.calm = true) : CallR X (.type "tuple") (fun xs H Q => ∃ (a : Addr) (kvs : List (Key × V)), xs = [.ref a] ∧ Rd H a (.dK kvs) ∧ ∀ p, H p = none → Q (.ref p) (upd H p (.tup (kvs.map fun kv => kV kv.1)))) := by
  rintro pins s σ H xs us Q I r ⟨a, kvs, rfl, hd, q⟩
  obtain ⟨u, rfl, rx⟩ := vals1 r
  cases rx
  obtain ⟨z, lo, vs, rel, dd⟩ := dk_rd I.hok hd
  obtain ⟨ep, hat⟩ := dd.dictAt
  have lv : kvs.length = vs.length := rel.length
  have ks : (kvs.map fun kv => kV kv.1) = vs.map fun p => kV p.1 := by
    have := congrArg (List.map kV) rel.keys
    rw [List.map_map, List.map_map] at this
    exact this
  refine callType_codes (Q₁ := fun obj s₁ => s₁.TypeIs obj "tuple" ∧ EP X pins σ Q obj s₁) PySem.F.called_tuple (PySem.F.typeCall_tuple_1 _) PySem.F.entry_object_init ?_ fun obj s₁ h₁ =>
    ⟨h₁.1, PySem.F.args_object_init_2 obj _, object_init_meets PySem.F.called_tuple.init.lookup PySem.F.called_tuple.made (by decide) X.prog X.w X.A.in1 _ s₁ ⟨h₁.1, rfl, h₁.2⟩⟩
  refine codeAny_of_tree ?_
  show wpAny _ X.A.in1.in1 (do checkBuiltinCall "tuple.__new__" ⟨[.type "tuple", .ref a], []⟩; again (.builtin "tuple.__new__" ⟨[.type "tuple", .ref a], []⟩)) _ _ s
  refine wpAny_bind (wpAny_of_eq (PySem.F.newCall_tuple_1 _) (wpAny_pure ⟨plainId_quiet PySem.F.plain_tuple_new _, codeAny_builtin PySem.F.entry_tuple_new ?_⟩))
  rw [Around.under_plainId PySem.F.plain_tuple_new _]
  have c1 := sub_tuple_self
  have c2 := init_tuple_lookup
  have c3 := madeHere_tuple
  have ty : s.TypeIs (.ref a) "dict" := dd.typeIs
  have K := PySem.W.kdl_dict (prog := X.prog) (w := X.w) (knd := mixKind X.prog X.w) (kvs := vs) (ep := ep) lo
  have sz0 : vs.length ≤ sizeLine := lv ▸ z
  wp_walk using wpAny_typeOf ty, PySem.W.kdu_collect K (show X.A.in1.in1.handled = none from I.ok.hd hcalm) hat sz0
  intro h' tk acc hk hacc
  show wpAny _ _ (Builtin.Tuple.tupleExact acc.toList.toArray >>= fun v => ret v) _ _ _
  unfold Builtin.Tuple.tupleExact
  have sz : acc.toList.toArray.size ≤ sizeLine := by
    simp only [Array.toArray_toList]
    rw [hacc.1, ← lv]
    exact z
  refine wpAny_bind (wpAny_newObj_type ?_ sz)
  refine wpAny_pure ⟨⟨_, Heap.get?_push_size _ rfl, rfl⟩, ?_⟩
  have hv : Vals (kvs.map fun kv => kV kv.1) acc.toList := by
    rw [ks]
    exact keys_at (by rw [Array.length_toList]; exact hacc.1) fun j v e => hacc.2 j v (by rw [← Array.getElem?_toList]; exact e)
  have I1 : Inv X pins σ H { s with heap := h', toks := tk } := I.kept hk
  exact ⟨.ref h'.objs.size, _, I1.laid (t' := tk) (fun b o e => Heap.get?_push_of_some _ e) (Nat.le_refl _) (show ObjOk X.prog X.w _ _ _ (.tup (kvs.map fun kv => kV kv.1)) from ⟨by rw [List.length_map]; exact z, acc.toList, hv, IsTup.new _ _⟩), rfl, q _ (I1.hok.fresh (Nat.le_refl _))⟩
end
/-! ### {**a, **b} -/
section
variable {prog : Program} {w : World} {κ : Type} [DecidableEq κ] {knd : KeyKind prog w κ} {A : Around} {E : Value → Shared → Prop} {s : Shared} {d a : Addr} {kvs more : List (κ × Value)}
/-- one entry is put -/
theorem put_pair {k : κ} {key v : Value} {Q : Unit → Shared → Prop} (hkey : knd.is k key = true) (hm : s.heap.DictOf knd d kvs) (sz : kvs.length ≤ sizeLine)
    (then_ : ∀ h', h'.DictOf knd d (stored kvs k v) → Heap.SameBut d s.heap h' → Q () { s with heap := h' }) : wpAny (model prog w) A (dictPut d (knd.hash k) key v) Q E s := by
  obtain ⟨o, es, ep, ho, hc, hd, hk, hp, once⟩ := hm
  have same : (es.findIdx? fun e => knd.is k e.key) = kvs.findIdx? fun kv => decide (kv.1 = k) := by
    rw [← hp.findIdx k]
    obtain ⟨l⟩ := es
    simp
  have small : es.size ≤ sizeLine := by
    have e1 := hp.length
    have e2 : es.toList.length = es.size := by simp
    omega
  unfold dictPut
  refine wpAny_bind (wpAny_dictFind_of hkey ho hd hk ?_)
  cases at_ : es.findIdx? fun e => knd.is k e.key with
  | some i =>
    refine wpAny_updateDict ho hd (then_ _ ⟨_, _, ep, Heap.get?_update_self _ ho (Obj.isFreed_of_dict (Obj.data_mapDict hd _)), hc.mapDict _, Obj.data_mapDict hd _, hk.modify _ _, ?_, ?_⟩ (Heap.SameBut.update ..))
    · rw [stored, if_pos (any_of_findIdx_some (same ▸ at_))]
      have hl : (es.toList.findIdx? fun e => knd.is k e.key) = some i := by
        rw [← at_]
        obtain ⟨l⟩ := es
        simp
      have := hp.modify once hl v
      obtain ⟨l⟩ := es
      simpa using this
    · rw [stored, if_pos (any_of_findIdx_some (same ▸ at_)), keys_map_store]
      exact once
  | none =>
    have out : k ∉ kvs.map (·.1) := not_mem_of_findIdx_none (same ▸ at_)
    have no : ¬ (kvs.any fun kv => decide (kv.1 = k)) = true := fun h => by
      obtain ⟨kv, hkv, he⟩ := List.any_eq_true.mp h
      exact out (List.mem_map.mpr ⟨kv, hkv, of_decide_eq_true he⟩)
    refine wpAny_updateDictKeys (hz := small) ho hd (then_ _ ⟨_, _, ep + 1, Heap.get?_update_self _ ho (Obj.isFreed_of_dict (Obj.data_mapDictKeys hd _)), hc.mapDictKeys _, Obj.data_mapDictKeys hd _, hk.push hkey _, ?_, ?_⟩ (Heap.SameBut.update ..))
    · rw [stored, if_neg no]
      have := hp.append hkey (knd.hash k) v
      obtain ⟨l⟩ := es
      simpa using this
    · rw [stored, if_neg no, List.map_append]
      refine List.nodup_append.mpr ⟨once, by simp, fun x hx y hy e => ?_⟩
      simp only [List.map_cons, List.map_nil, List.mem_singleton] at hy
      exact out (hy ▸ e ▸ hx)
end
end RM

set_option Elab.async false
set_option linter.all false
set_option maxRecDepth 100000
set_option maxHeartbeats 2000000
/-! {**a, **b} -/
namespace RM
open PySem PySem.Spec PyProof.Rows L2
section
variable {prog : Program} {w : World} {κ : Type} [DecidableEq κ] {knd : PySem.KeyKind prog w κ} {A : Around} {E : Value → Shared → Prop} {s : Shared} {d a : Addr} {kvs more : List (κ × Value)}
theorem merge_in {Q : Unit → Shared → Prop} (ne : d ≠ a) (lo : (a == sysModules) = false) (hd : s.heap.DictOf knd d kvs) (ha : s.heap.DictOf knd a more) (sz : kvs.length + more.length ≤ sizeLine)
    (then_ : ∀ h', h'.DictOf knd d (merged kvs more) → Heap.SameBut d s.heap h' → Q () { s with heap := h' }) : wpAny (model prog w) A (mergeMapping d (.ref a) false) Q E s := by
  obtain ⟨od, esd, epd, hod, _, hdd, _, _, _⟩ := id hd
  obtain ⟨oa, esa, epa, hoa, hca, hda, hka, hpa, hna⟩ := id ha
  have len : more.length = esa.size := by rw [← hpa.length]; simp
  unfold mergeMapping
  refine wpAny_bind (wpAny_isInstance ha.typeIs isSubtype_dict_dict ?_)
  rw [if_pos rfl]
  refine wpAny_bind (wpAny_specialOf ha.typeIs PySem.F.slot_dict_iter.lookup ?_)
  refine wpAny_bind (wpAny_pure ?_)
  rw [show (some (Value.builtin "dict.__iter__") == some (Value.builtin "dict.__iter__")) = true by decide]
  dsimp only
  rw [if_neg (by rw [lo]; exact Bool.false_ne_true)]
  have loop : wpAny (model prog w) A (do
      let es ← dictEntries a
      let epoch ← dictEpoch a
      forIn (List.range es.size) PUnit.unit fun i (_ : PUnit) => (do
          let es ← dictEntries a
          match es[i]? with
            | some e => do
              holding [e.key, e.val]
                  (if false = true then do
                    let l ← dictFind d e.key e.hash
                    if l.isSome = true then do
                        rule "dict.merge.duplicate-key"
                        let x ← newExc (Value.type "KeyError") [e.key]
                        raiseNew x
                        dictPut d e.hash e.key e.val
                      else dictPut d e.hash e.key e.val
                  else dictPut d e.hash e.key e.val)
              let ep ← dictEpoch a
              if (ep != epoch) = true then do
                  (unsupported "dict.changed-during-merge" : Sem PUnit)
                  pure (ForInStep.yield PUnit.unit)
                else pure (ForInStep.yield PUnit.unit)
            | _ => do
              (unsupported "dict.changed-during-merge" : Sem PUnit)
              pure (ForInStep.yield PUnit.unit) : Sem (ForInStep PUnit))
      pure ()) Q E s := by
    refine wpAny_bind (wpAny_dictEntries hoa hda (wpAny_bind (wpAny_dictEpoch hoa hda (wpAny_bind ?_))))
    refine wpAny_forIn_list _ (fun rest _ s' => ∃ h' i, s' = { s with heap := h' } ∧ rest = (List.range esa.size).drop i ∧ i ≤ esa.size ∧ h'.DictOf knd d (merged kvs (more.take i)) ∧ h'.get? a = some oa ∧ Heap.SameBut d s.heap h') _ ?_ ?_ _ _
      ⟨s.heap, 0, rfl, rfl, Nat.zero_le _, hd, hoa, Heap.SameBut.refl _ _⟩
    · rintro x rest b s' ⟨h', i, rfl, hr, hi, hd', hoa', hs'⟩
      have lt : i < esa.size := by
        rcases Nat.lt_or_ge i esa.size with h | h
        · exact h
        · rw [List.drop_eq_nil_of_le (by rw [List.length_range]; exact h)] at hr
          cases hr
      rw [List.drop_eq_getElem_cons (by rw [List.length_range]; exact lt), List.getElem_range] at hr
      injection hr with e1 e2
      subst e1 e2
      refine wpAny_bind (wpAny_dictEntries hoa' hda ?_)
      rw [Array.getElem?_eq_getElem lt]
      obtain ⟨⟨k, v⟩, hkv⟩ : ∃ kv, more[x]? = some kv := ⟨more[x]'(by rw [len]; exact lt), List.getElem?_eq_getElem _⟩
      obtain ⟨k1, v1⟩ := hpa.get? (e := esa[x]) (by simp [lt]) hkv
      obtain ⟨k2, k3, hh⟩ := hka esa[x] (Array.getElem_mem lt)
      obtain rfl : k2 = k := knd.inj _ _ _ k3 k1
      dsimp only
      rw [if_neg Bool.false_ne_true, hh, v1]
      have room : (merged kvs (more.take x)).length ≤ sizeLine := by
        have few := merged_length_le kvs (more.take x)
        rw [List.length_take] at few
        omega
      refine wpAny_bind (wpAny_holding (put_pair k1 hd' room fun h2 hd2 hs2 => ?_))
      have hoa2 : h2.get? a = some oa := (hs2.2 a (Ne.symm ne)).trans hoa'
      refine wpAny_bind (wpAny_dictEpoch hoa2 hda ?_)
      rw [if_neg (by simp)]
      exact wpAny_pure ⟨h2, x + 1, rfl, rfl, lt, by rw [merged_take_succ kvs more x (k2, v) hkv]; exact hd2, hoa2, hs'.trans hs2⟩
    · rintro b s' ⟨h', i, rfl, hr, hi, hd', hoa', hs'⟩
      have e : i = esa.size := by
        rcases Nat.lt_or_ge i esa.size with h | h
        · rw [List.drop_eq_getElem_cons (by rw [List.length_range]; exact h)] at hr
          cases hr
        · omega
      rw [e, ← len, List.take_length] at hd'
      exact wpAny_pure (then_ h' hd' hs')
  refine wpAny_bind (wpAny_dictEntries hod hdd ?_)
  split
  · refine wpAny_bind (wpAny_dictEntries hoa hda (wpAny_bind ?_))
    have quiet : (forIn esa PUnit.unit fun e (_ : PUnit) => (match e.key with
        | Value.ref _ => do
          let l ← specialOf e.key (Str.ofString "__eq__")
          if (l != some (Value.builtin "object.__eq__")) = true then
              if (Array.filter (fun x => x.hash == e.hash) esa).size > 1 then do
                (unsupported "dict.merge-into-an-empty-dict:keys-of-equal-hash" : Sem PUnit)
                pure (ForInStep.yield PUnit.unit)
              else pure (ForInStep.yield PUnit.unit)
            else pure (ForInStep.yield PUnit.unit)
        | _ => pure (ForInStep.yield PUnit.unit) : Sem (ForInStep PUnit))) = pure PUnit.unit := by
      rw [← Array.forIn_toList]
      refine forIn_yield_id _ fun e he c => ?_
      obtain ⟨k, hk, _⟩ := hka e (Array.mem_toList_iff.mp he)
      have bv := knd.byValue k _ hk
      cases q : e.key <;> first | rfl | (rw [q] at bv; exact absurd bv Bool.false_ne_true)
    exact wpAny_of_eq quiet loop
  · exact loop
end
/-- {**a, **b}: the new dict stands while the two are read -/
def tStar2 (ta tb : TE) : TE := fun σ H Q => ∀ p, H p = none → ta σ (upd H p (.dK [])) fun x H1 => ∃ a kvs, x = .ref a ∧ a ≠ p ∧ H1 p = some (.dK []) ∧ Rd H1 a (.dK kvs) ∧
  tb σ (upd H1 p (.dK (mergeK [] kvs))) fun y H2 => ∃ b more m1, y = .ref b ∧ b ≠ p ∧ H2 p = some (.dK m1) ∧ Rd H2 b (.dK more) ∧ m1.length + more.length ≤ sizeLine ∧ Q (.ref p) (upd H2 p (.dK (mergeK m1 more)))
section
variable {X : Cx}
theorem merge_V {pins : List (Addr × Obj)} {σ : L2.St} {H : Hp} {s : Shared} {p a : Addr} {m1 more : List (Key × V)} {A : Around} {E : Value → Shared → Prop} {Q : Unit → Shared → Prop} (I : Inv X pins σ H s) (hp : H p = some (.dK m1)) (ha : Rd H a (.dK more)) (ne : a ≠ p) (sz : m1.length + more.length ≤ sizeLine)
    (then_ : ∀ s', Inv X pins σ (upd H p (.dK (mergeK m1 more))) s' → Q () s') : wpAny (model X.prog X.w) A (mergeMapping p (.ref a) false) Q E s := by
  obtain ⟨z1, lo1, vs, r1, d1⟩ := dk_of I.hok hp
  obtain ⟨z2, lo2, us, r2, d2⟩ := dk_rd I.hok ha
  have l1 : m1.length = vs.length := r1.length
  have l2 : more.length = us.length := r2.length
  refine merge_in (Ne.symm ne) lo2 d1 d2 (by omega) fun h' hd hs => then_ _ ?_
  have len : (mergeK m1 more).length ≤ sizeLine := Nat.le_trans (length_mergeK more m1) sz
  have he : ∃ q, h'.get? p = some q := let ⟨q, _, _, hq, _⟩ := hd; ⟨q, hq⟩
  exact d_write (t' := s.toks) I (by rw [hp]; exact True.intro) hs he (dk_new len lo1 (KV.merge r2 r1) hd)
theorem pe_star2 {e1 e2 : Expr} {ta tb : TE} {pos : Pos} (h1 : PE X e1 ta) (h2 : PE X e2 tb) : PE X (.Dict [none, none] [e1, e2] pos) (tStar2 ta tb) := by
  refine ⟨fun pins s σ H Q I q => ?_⟩
  have q1 := q s.heap.objs.size (I.hok.fresh (Nat.le_refl _))
  have I1 := I.laid (t' := s.toks) (fun _ _ z => Heap.get?_push_of_some _ z) (Nat.le_refl _) (dk_empty (P := X.prog) (w := X.w) (H := upd H s.heap.objs.size (.dK [])) s.heap I.big)
  rw [arm_eval_Dict]
  refine wpAny_bind (wpAny_standAt ?_)
  show wpAny _ _ (dictDisplay [(none, do let x ← eval e1 X.env; standAt pos; pure x), (none, do let x ← eval e2 X.env; standAt pos; pure x)]) _ _ _
  unfold dictDisplay
  dsimp only
  refine wpAny_bind ?_
  rw [List.forIn_cons]
  refine wpAny_bind ?_
  dsimp only
  rw [if_pos (by rfl)]
  refine wpAny_bind (wpAny_pure ?_)
  dsimp only
  refine wpAny_bind (wpAny_alloc ?_)
  refine wpAny_bind (wpAny_holding (wpAny_bind (thn (h1.run pins _ σ _ _ I1 q1) ?_)))
  rintro v s1 ⟨_, H1, I2, rx, a, kvs, rfl, ne, hp, ha, q2⟩
  cases rx
  refine wpAny_bind (wpAny_standAt (wpAny_pure ?_))
  have l1 : kvs.length ≤ sizeLine := (dk_rd I2.hok ha).1
  refine wpAny_bind (wpAny_onRaise (wpAny_tryCatch (wpAny_onRaise (wpAny_holding (merge_V I2 hp ha ne (by rw [List.length_nil, Nat.zero_add]; exact l1) fun s2 I3 => ?_)))))
  refine wpAny_pure ?_
  dsimp only
  rw [List.forIn_cons]
  refine wpAny_bind ?_
  dsimp only
  rw [if_pos (by rfl)]
  refine wpAny_bind (wpAny_pure ?_)
  dsimp only
  refine wpAny_bind (wpAny_pure ?_)
  refine wpAny_bind (wpAny_holding (wpAny_bind (thn (h2.run pins _ σ _ _ I3 q2) ?_)))
  rintro v s3 ⟨_, H2, I4, rx, b, more, m1, rfl, ne2, hp2, hb, sz, q3⟩
  cases rx
  refine wpAny_bind (wpAny_standAt (wpAny_pure ?_))
  refine wpAny_bind (wpAny_onRaise (wpAny_tryCatch (wpAny_onRaise (wpAny_holding (merge_V I4 hp2 hb ne2 sz fun s4 I5 => ?_)))))
  refine wpAny_pure ?_
  dsimp only
  rw [List.forIn_nil]
  refine wpAny_pure ?_
  dsimp only
  rw [if_pos (by rfl)]
  refine wpAny_bind (wpAny_pure ?_)
  exact wpAny_pure ⟨.ref s.heap.objs.size, _, I5, rfl, q3⟩
end
end RM

set_option Elab.async false
set_option linter.all false
set_option maxRecDepth 100000
set_option maxHeartbeats 2000000
namespace RM
open PySem PySem.Spec PyProof.Rows L2
/-- the first word of g that m lacks -/
def lack (m g : WM) : Option Str := (wKeys g).find? fun k => decide (k ∉ wKeys m)
theorem lack_none {m g : WM} (h : lack m g = none) : ∀ k ∈ wKeys g, k ∈ wKeys m := fun k hk => by
  have := List.find?_eq_none.mp h k hk
  simpa using this
theorem paired_at {α β : Type} {F : α → β → Prop} : ∀ {l : List α} {m : List β}, Paired F l m → ∀ {i : Nat} {x : α}, l[i]? = some x → ∃ y, m[i]? = some y ∧ F x y
  | _, _, .nil, i, x, h => by simp at h
  | _, _, .cons h t, 0, x, e => by
    obtain rfl : _ = x := Option.some.inj e
    exact ⟨_, rfl, h⟩
  | _, _, .cons h t, i + 1, x, e => paired_at t (i := i) (by simpa using e)
theorem lack_keys {m m' g : WM} (h : wKeys m = wKeys m') : lack m g = lack m' g := by unfold lack; rw [h]
theorem first_none {m : WM} {cs : List WM} (h : ∀ (i : Nat) (g : WM), cs[i]? = some g → lack m g = none) : cs.findSome? (lack m) = none := List.findSome?_eq_none_iff.mpr fun g hg => by
  obtain ⟨i, hi⟩ := List.getElem?_of_mem hg
  exact h i g hi
theorem first_some {m : WM} {cs : List WM} {i : Nat} {g : WM} {k : Str} (hi : cs[i]? = some g) (hk : lack m g = some k) (h : ∀ (j : Nat) (g' : WM), j < i → cs[j]? = some g' → lack m g' = none) : cs.findSome? (lack m) = some k := by
  have il := (List.getElem?_eq_some_iff.mp hi).1
  have e : cs = cs.take i ++ g :: cs.drop (i + 1) := by
    have := List.take_append_drop (i + 1) cs
    rw [List.take_add_one, hi] at this
    rw [List.append_assoc] at this
    exact this.symm
  rw [e, List.findSome?_append, List.findSome?_eq_none_iff.mpr, List.findSome?_cons, hk]
  · rfl
  · intro g' hg'
    obtain ⟨j, hj⟩ := List.getElem?_of_mem hg'
    have jl := (List.getElem?_eq_some_iff.mp hj).1
    rw [List.length_take] at jl
    rw [List.getElem?_take, if_pos (by omega)] at hj
    exact h j g' (by omega) hj
theorem paired_take {α β : Type} {F : α → β → Prop} : ∀ {l : List α} {m : List β}, Paired F l m → ∀ k, Paired F (l.take k) (m.take k)
  | _, _, .nil, k => by rw [List.take_nil, List.take_nil]; exact .nil
  | _, _, .cons h t, 0 => .nil
  | _, _, .cons h t, k + 1 => .cons h (paired_take t k)
theorem paired_drop {α β : Type} {F : α → β → Prop} : ∀ {l : List α} {m : List β}, Paired F l m → ∀ k, Paired F (l.drop k) (m.drop k)
  | _, _, .nil, k => by rw [List.drop_nil, List.drop_nil]; exact .nil
  | _, _, .cons h t, 0 => .cons h t
  | _, _, .cons h t, k + 1 => paired_drop t k
theorem paired_app {α β : Type} {F : α → β → Prop} : ∀ {l l2 : List α} {m m2 : List β}, Paired F l m → Paired F l2 m2 → Paired F (l ++ l2) (m ++ m2)
  | _, _, _, _, .nil, h => h
  | _, _, _, _, .cons h t, g => .cons h (paired_app t g)
theorem paired_mem {α β : Type} {F : α → β → Prop} : ∀ {l : List α} {m : List β}, Paired F l m → ∀ y ∈ m, ∃ x ∈ l, F x y
  | _, _, .cons (a := x) h t, y, hy => by
    rcases List.mem_cons.mp hy with rfl | hy
    · exact ⟨x, List.mem_cons_self, h⟩
    · obtain ⟨z, hz, hf⟩ := paired_mem t y hy
      exact ⟨z, List.mem_cons_of_mem _ hz, hf⟩
theorem paired_mem' {α β : Type} {F : α → β → Prop} : ∀ {l : List α} {m : List β}, Paired F l m → ∀ x ∈ l, ∃ y ∈ m, F x y
  | _, _, .cons (b := y) h t, x, hx => by
    rcases List.mem_cons.mp hx with rfl | hx
    · exact ⟨y, List.mem_cons_self, h⟩
    · obtain ⟨z, hz, hf⟩ := paired_mem' t x hx
      exact ⟨z, List.mem_cons_of_mem _ hz, hf⟩
end RM

set_option Elab.async false
set_option linter.all false
set_option maxRecDepth 100000
set_option maxHeartbeats 2000000
set_option pp.maxSteps 600
set_option pp.deepTerms false
namespace RM
open PySem PySem.Spec PyProof.Rows L2
theorem lineT_some {g : WM} (h : g.isEmpty = false) : lineT g = Txt.join " " (g.map wordT) := by unfold lineT; rw [h, if_neg Bool.false_ne_true]
theorem wordT_len {q : Str × Int} (h1 : isWord q.1 = true) (h2 : isValue q.2 = true) : (wordT q).length ≤ 10 := by
  have a := isWord_len h1
  have b := num_chk h2
  unfold numChk at b
  rw [Bool.and_eq_true, Bool.and_eq_true] at b
  have c := of_decide_eq_true b.2.1
  rw [← cl_len, cl_word, List.length_append, List.length_append]
  rw [← cl_len] at a
  show (cl q.1).length + (1 + (cl (numT q.2)).length) ≤ 10
  omega
theorem sum_le {f : Str → Nat} {b : Nat} : ∀ {l : List Str}, (∀ z ∈ l, f z ≤ b) → (l.map f).sum ≤ b * l.length
  | [], _ => by simp
  | a :: r, h => by
    have h1 := h a List.mem_cons_self
    have h2 := sum_le (l := r) fun z hz => h z (List.mem_cons_of_mem _ hz)
    rw [List.map_cons, List.sum_cons, List.length_cons, Nat.mul_add]
    omega
theorem lineT_len {g : WM} (h : okM g) (hl : g.length ≤ 4) : (lineT g).length ≤ 50 := by
  unfold lineT
  split
  · decide +kernel
  · have h1 := join_len (g.map wordT)
    have h2 := sum_le (f := fun z => z.length) (b := 10) (l := g.map wordT) fun z hz => by
      obtain ⟨q, hq, rfl⟩ := List.mem_map.mp hz
      exact wordT_len (h.1 q hq).1 (h.1 q hq).2
    rw [List.length_map] at h1 h2
    omega
section
variable {P : Program} {w : World} {K : PySem.W.Frag} {mg : Str → Option Value} {base : Heap}
def spLine (K : PySem.W.Frag) : Sp := fun vs H Q _ => match vs with
  | [x] => ∃ a m, x = .ref a ∧ ChgAt K H a m ∧ ∀ H', Same H H' → Q (.str (lineT m)) H'
  | _ => False
theorem sc_change_line : FnScope ["change", "given", "key"] ["change"] (defScope s_change_line) := ⟨rfl, rfl, rfl, by decide +kernel, rfl, by decide +kernel, by decide +kernel⟩
theorem c_change_line (T : Top w K mg) : Cal P w K mg base CX0 4 "change_line" (spLine K) := by
  refine cal_0 (f_change_line T) (g_change_line T) sc_change_line (fun _ _ _ _ _ _ us hl => match us, hl with | [_], _ => rfl) (fun vs H Q E h => match vs, h with | [_], _ => rfl) (fun cdv A outer s H vs Q E hr h => ?_)
  match vs, h with
  | [x], h =>
  obtain ⟨a, m, rfl, hm, q⟩ := h
  obtain ⟨⟨dx, p0, ha, hp0, hg, hs⟩, hl⟩ := id hm
  refine ⟨_, (pss_cons (ps_set (i := 1) sc_change_line.nd rfl (Or.inr rfl) (pmt0 (c_Change_settings T) hr (pv 0)))
    (pss_cons (ps_if (pt_not (pt_truth (pv 1) (by intro _; rfl)))
      (pss_one (ps_ret pe_str))
      pss_nil)
    (pss_one (ps_ret (pe_join pe_str (pe_lock (pe_lc (own := [("key", 2)]) rfl sc_change_line.nd (pi_keys (pv 1)) (blkOk_by (own := [("key", 2)]) (N := ["change", "given", "key"]) (sc := defScope s_change_line) (by decide +kernel)) (fun _ _ _ _ _ => (pg_name (i := 2) sc_change_line.nd rfl (Or.inl rfl) (Or.inr rfl))) (fun _ _ _ _ _ => pts_nil) (fun _ _ _ _ _ => (pe_joined (.cons (pe_fmt (pv 2)) (.cons pe_str (.cons (pe_fmt (pe_dget (hu_of hr) (pv 1) (pv 2) (fun _ _ => rfl))) .nil)))))))))))), ?_⟩
  refine ⟨_, rfl, a, dx, _, rfl, ha, rfl, a, m, rfl, hm, fun p H1 s1 np hp => ?_⟩
  refine ⟨_, rfl, _, .inr (.inr ⟨_, hp, rfl⟩), ?_⟩
  have em : (mK m).isEmpty = m.isEmpty := by cases m <;> rfl
  rw [em]
  by_cases c : m.isEmpty = true
  · refine ifT (by rw [c]; rfl) ?_
    have := q H1 s1
    unfold lineT at this
    rw [if_pos c] at this
    exact this
  have c' : m.isEmpty = false := by simpa using c
  refine ifF (by rw [c']; rfl) ?_
  have lt := lineT_some c'
  refine ⟨⟨_, rfl⟩, p, .dK (mK m), hp, trivial, fun od => ?_⟩
  refine ⟨_, rfl, p, od, rfl, .inl ⟨mK m, upd_same, fun D nD => ?_⟩⟩
  have lm : (mK m).length = m.length := List.length_map ..
  refine lc_opt (te := fun σ H Q => tJs [tFmt (tVar 2), tC (V.str "="), tFmt (tDGet (tVar 1) (tVar 2))] Str.empty σ H fun out H1 => Q (V.str out) H1) walk_keys (fun (z : Str) y _ => y = .str z) (fun i => (m[i]?).map wordT) nD (small1000 (by omega)) (fun H' e => e _ _ upd_same) (fun _ _ _ _ h _ => h) (fun _ _ _ _ _ h _ => h) ?_ ?_
  · rintro i x H2 H3 N hi e ⟨rfl, k, v, hk, rfl⟩ hk2 _
    obtain ⟨z, hz, rfl, rfl⟩ := mK_get hk
    have hm2 := List.mem_of_getElem? hz
    have wl := wordT_len (hg.1 z hm2).1 (hg.1 z hm2).2
    have e1 : Str.empty ++ z.1 = z.1 := emp_app _
    have l1 := isWord_len (hg.1 z hm2).1
    have l2 : (z.1 ++ ("=" : Str)).length ≤ (wordT z).length := by
      unfold wordT
      rw [Str.length_append (z.1 ++ "=")]
      omega
    refine ⟨rfl, yesI ?_⟩
    refine ⟨_, rfl, .inl ⟨z.1, rfl, Nat.le_of_lt (small1000 (by omega)), z.1, rfl, by rw [e1]; exact Nat.le_of_lt (small1000 (by omega)), ?_⟩⟩
    rw [e1]
    refine ⟨"=", rfl, Nat.le_of_lt (small1000 (by omega)), ?_⟩
    refine ⟨_, rfl, _, rfl, p, .int z.2, rfl, .inl ⟨mK m, .inr z.1, .inr ⟨od, e _ _ upd_same⟩, rfl, (valV_mK hg.2 z hm2).symm⟩, .inr ⟨z.2, rfl, log_small (hg.1 z hm2).2, numT z.2, rfl, ?_, ?_⟩⟩
    · show (wordT z).length ≤ _
      exact Nat.le_of_lt (small1000 (by omega))
    · exact hk2 _ _ (wordT z) (by rw [hz]; rfl) (Same.refl _) rfl
  · intro H2 ys e hD hp'
    rw [lm, map_at] at hp'
    have hys : ys = (m.map wordT).map V.str := paired_eq hp'
    have eH := e _ _ (upd_same : (upd H1 p (.frz od (.dK (mK m)))) p = _)
    have Dp : D ≠ p := fun z => by
      rw [z] at hD
      rw [hD] at eH
      cases eH
    have s2 : Same H (upd H2 p (.dK (mK m))) := s1.trans (same_back hp e)
    have fin := q _ s2
    rw [lt] at fin
    have b1 := sum_le (f := fun z => z.length) (b := 10) (l := m.map wordT) fun z hz => by
      obtain ⟨q, hq, rfl⟩ := List.mem_map.mp hz
      exact wordT_len (hg.1 q hq).1 (hg.1 q hq).2
    rw [List.length_map] at b1
    refine ⟨eH, " ", D, m.map wordT, rfl, rfl, .inl (SqL.of (by rw [upd_ne Dp, hD, hys])), ?_, fin⟩
    have o : (" " : Str).length = 1 := by decide +kernel
    rw [o, List.length_map]
    omega
/-! ### write_changes -/
/-- changes in a list, each with its dict -/
def ChgsAt (K : PySem.W.Frag) (H : Hp) (cs : List V) (gs : List WM) : Prop := Paired (fun v g => ∃ a, v = V.ref a ∧ ChgAt K H a g) cs gs
theorem ChgsAt.keep {H H' : Hp} {cs : List V} {gs : List WM} (e : Same H H') (h : ChgsAt K H cs gs) : ChgsAt K H' cs gs := paired_mono h fun v g ⟨a, e1, c⟩ => ⟨a, e1, c.keep e⟩
theorem ChgsAt.len {H : Hp} {cs : List V} {gs : List WM} (h : ChgsAt K H cs gs) : cs.length = gs.length := Paired.length h
theorem ChgsAt.at {H : Hp} {cs : List V} {gs : List WM} (h : ChgsAt K H cs gs) {i : Nat} {v : V} {g : WM} (hv : cs[i]? = some v) (hg : gs[i]? = some g) : ∃ a, v = .ref a ∧ ChgAt K H a g := by
  obtain ⟨g2, h2, q⟩ := paired_at h hv
  rw [hg] at h2
  cases h2
  exact q
def textC (gs : List WM) : Str := Txt.join "\n" (gs.map lineT)
def spWriteC (K : PySem.W.Frag) : Sp := fun vs H Q _ => match vs with
  | [x] => ∃ l cs gs, x = .ref l ∧ H l = some (.lst cs) ∧ ChgsAt K H cs gs ∧ gs.length ≤ 1000 ∧ ∀ H', Same H H' → Q (.str (textC gs)) H'
  | _ => False
theorem sc_write_changes : FnScope ["changes", "change"] ["changes"] (defScope s_write_changes) := ⟨rfl, rfl, rfl, by decide +kernel, rfl, by decide +kernel, by decide +kernel⟩
theorem c_write_changes (T : Top w K mg) : Cal P w K mg base CX0 5 "write_changes" (spWriteC K) := by
  refine cal_0 (f_write_changes T) (g_write_changes T) sc_write_changes (fun _ _ _ _ _ _ us hl => match us, hl with | [_], _ => rfl) (fun vs H Q E h => match vs, h with | [_], _ => rfl) (fun cdv A outer s H vs Q E hr h => ?_)
  match vs, h with
  | [x], h =>
  obtain ⟨l, cs, gs, rfl, hl, hc, hn, q⟩ := h
  refine ⟨_, (pss_one (ps_ret (pe_join pe_str (pe_lc (own := [("change", 1)]) rfl sc_write_changes.nd (pi_seqA (pv 0)) (blkOk_by (own := [("change", 1)]) (N := ["changes", "change"]) (sc := defScope s_write_changes) (by decide +kernel)) (fun _ _ _ _ _ => (pg_name (i := 1) sc_write_changes.nd rfl (Or.inl rfl) (Or.inr rfl))) (fun _ _ _ _ _ => pts_nil) (fun _ _ _ _ _ => (pc (c_change_line T) hr (pa_cons (pv 1) pa_nil))))))), ?_⟩
  refine ⟨⟨_, rfl⟩, _, rfl, ?_⟩
  refine seqA_of (.inl (SqL.of hl)) (Same.refl _) fun J wk => ?_
  intro D nD
  refine lc_opt (te := tCall (spLine K) [] E0 (tCons (tVar 1) tNil)) wk (fun (z : Str) y _ => y = .str z) (fun i => (gs[i]?).map lineT) nD (small1000 (by rw [hc.len]; omega)) (fun H' e => e) (fun _ _ _ _ h _ => h) (fun _ _ _ _ _ h _ => h) ?_ ?_
  · rintro i x H2 H3 N hi e ⟨rfl, hx⟩ hk2 _
    have ig : i < gs.length := by rw [← hc.len]; exact hi
    obtain ⟨a, rfl, ca⟩ := hc.at hx (List.getElem?_eq_getElem ig)
    refine ⟨rfl, yesI ?_⟩
    refine ⟨_, rfl, a, _, rfl, ca.keep e, fun H4 s4 => ?_⟩
    exact hk2 _ _ (lineT gs[i]) (by rw [List.getElem?_eq_getElem ig]; rfl) s4 rfl
  · intro H2 ys e hD hp'
    rw [hc.len, map_at] at hp'
    have hys : ys = (gs.map lineT).map V.str := paired_eq hp'
    refine ⟨"\n", D, gs.map lineT, rfl, rfl, .inl (SqL.of (by rw [hD, hys])), ?_, q _ e⟩
    have b1 := sum_le (f := fun z => z.length) (b := 50) (l := gs.map lineT) fun z hz => by
      obtain ⟨g, hg, rfl⟩ := List.mem_map.mp hz
      obtain ⟨k, hk, e⟩ := List.getElem_of_mem hg
      have kc : k < cs.length := by rw [hc.len]; exact hk
      obtain ⟨a, _, ca⟩ := hc.at (List.getElem?_eq_getElem kc) (List.getElem?_eq_getElem hk)
      rw [← e]
      exact lineT_len ca.ok.1 ca.2
    rw [List.length_map] at b1
    have o : ("\n" : Str).length = 1 := by decide +kernel
    rw [o, List.length_map]
    omega
end
end RM

set_option Elab.async false
set_option linter.all false
set_option maxRecDepth 100000
/-! zip(a list, a text) -/
namespace RM
open PySem PySem.Spec
open PyProof.Rows
open L2
def ItzLS (K : PySem.W.Frag) (a : Addr) (z : Str) : It :=
  ⟨fun i H => ∃ (xs : List V) (x : V) (c : Nat), SqL K H a xs ∧ xs[i]? = some x ∧ z.cps[i]? = some c,
    fun i H v H' => ∃ T x c, v = .ref T ∧ H T = none ∧ H' = upd H T (.tup [x, .str ⟨#[c]⟩]) ∧ (∀ xs, SqL K H a xs → xs[i]? = some x) ∧ z.cps[i]? = some c,
    fun i H => ∃ xs : List V, SqL K H a xs ∧ min xs.length z.cps.size = i⟩
theorem turn_zipLS {P : Program} {w : World} {K : PySem.W.Frag} {elts : List Expr} {kk : Nat} {tpos : Pos} {a z TI TO i1 i2 : Addr} {x : Str} {tx : Tok} (S : ZipSep2 z TI TO i1 i2 [i1, a] [i2]) (hai : a ≠ i1) :
    Turn P w K (.Tuple elts kk tpos) (ItzLS K a x) [z, TI, TO, i1, i2] z (fun i h => IsZip h z TI TO .none ∧ IsTupOf2 h TI (.ref i1) (.ref i2) ∧ (∃ a1 a2, IsTupOf2 h TO a1 a2) ∧ h.IsListIter i1 a i ∧ h.IsStrIter i2 (strIterType x) x tx i) := by
  refine turn_pair (by simp) (fun i h st b hb => ?_) (fun i h h' st k => ?_) (fun A i s Q E st h => wpAny_pyIter_zip st.1 h) ?_ ?_
  · obtain ⟨zi, ti, ⟨_, _, to_⟩, ⟨o1, e1, _, d1⟩, ⟨o2, e2, _, d2⟩⟩ := st
    simp only [List.mem_cons, List.not_mem_nil, or_false] at hb ⊢
    have fl : ∀ {o : Obj} {vs : Array Value}, o.data = .fields vs → ∀ v, o.data ≠ .cell v := fun d v no => by simp [d] at no
    obtain rfl | rfl | rfl | rfl | rfl := hb
    · exact ⟨_, zi, fun v => nofun⟩
    · exact ⟨_, ti, fun v => nofun⟩
    · exact ⟨_, to_, fun v => nofun⟩
    · exact ⟨o1, e1, fl d1⟩
    · exact ⟨o2, e2, fl d2⟩
  · obtain ⟨hz, hTI, ⟨a1, a2, hTO⟩, h1, h2⟩ := st
    exact ⟨k z (by simp) _ hz, k TI (by simp) _ hTI, ⟨a1, a2, k TO (by simp) _ hTO⟩, h1.at fun o q => k i1 (by simp) o q, let ⟨o, ho, r⟩ := h2; ⟨o, k i2 (by simp) o ho, r⟩⟩
  · rintro X rfl rfl rfl i pins s σ H I hh ⟨hz, hTI, hTO, h1, h2⟩ ⟨xs, y, c, hq, hx, hc⟩
    obtain ⟨its, rv, p, _⟩ := I.list hq
    obtain ⟨u, hu, ru⟩ := Vals.get (xs := xs) rv hx
    have pt : s.heap.IsList a its.toArray := p.isList
    have W := GoesN.zip2 (prog := X.prog) (w := X.w) (A := X.A) (elts := elts) (x1 := kk) (pos := tpos) S (Draws.list (prog := X.prog) (w := X.w) (A := X.A.in1) hh i1 a hai its.toArray) (Draws.text (prog := X.prog) (w := X.w) (A := X.A.in1) hh i2 x tx)
    refine ⟨_, _, _, _, _, W, ?_, ⟨hz, hTI, hTO, ⟨h1, pt⟩, h2⟩, by simp, ?_⟩
    · have l1 : i < its.length := (List.getElem?_eq_some_iff.mp hu).1
      have l2 : i < x.cps.size := (Array.getElem?_eq_some_iff.mp hc).1
      simp only [List.size_toArray]
      omega
    · rintro v h' ⟨T, x', y', rfl, hT, hx', ⟨c', t', hc', rfl⟩, ht⟩ ⟨hz', hTI', hTO', ⟨h1', _⟩, h2'⟩
      have hx2 : its[i]? = some x' := by simpa using hx'
      rw [hu] at hx2
      cases hx2
      rw [hc] at hc'
      cases hc'
      refine ⟨T, _, _, y, .str ⟨#[c]⟩, rfl, hT, ht, ru, ⟨t', rfl⟩, ⟨hz', hTI', hTO', h1', h2'⟩, T, y, c, rfl, I.hok.fresh hT, rfl, fun l hl => ?_, hc⟩
      rw [I.list_inj hl hq]
      exact hx
  · rintro X rfl rfl rfl i pins s σ H I hh ⟨hz, hTI, hTO, h1, h2⟩ ⟨xs, hq, hl⟩
    obtain ⟨its, rv, p, _⟩ := I.list hq
    have pt : s.heap.IsList a its.toArray := p.isList
    have W := GoesN.zip2 (prog := X.prog) (w := X.w) (A := X.A) (elts := elts) (x1 := kk) (pos := tpos) S (Draws.list (prog := X.prog) (w := X.w) (A := X.A.in1) hh i1 a hai its.toArray) (Draws.text (prog := X.prog) (w := X.w) (A := X.A.in1) hh i2 x tx)
    have hl2 : min its.toArray.size x.cps.size = i := by
      have q := rv.length
      simp only [List.size_toArray]
      omega
    rw [hl2] at W
    exact ⟨_, _, _, _, W, ⟨hz, hTI, hTO, ⟨h1, pt⟩, h2⟩, by simp⟩
def iZipLS (K : PySem.W.Frag) (ta : TA) : TI := fun σ H R => ta σ H fun vs H1 => ∃ a xs z, vs = [.ref a, .str z] ∧ SqL K H1 a xs ∧ R (ItzLS K a z) H1
theorem pi_zipLS {X : Cx} {e e2 : Expr} {ta : TA} {p pos tpos : Pos} {elts : List Expr} {kk : Nat} (hg : Gl X "zip") (hm : X.mg "zip" = none) (ha : PA X [e, e2] ta)
    (two : starEach [e, e2] X.env = (false, eval e X.env) :: starEach [e2] X.env := by rfl)
    (plain : (backTo pos (starEach [e2] X.env)).any (·.1) = false := by rfl) : PI X (.Tuple elts kk tpos) (.Call (.Name "zip" p) [e, e2] [] pos) (iZipLS X.K ta) := by
  constructor
  intro pins s σ H R inv pre
  refine Call_ (ld_blt inv hg hm PyProof.Rows.boot_zip (PyProof.Rows.callWith_type1 (thn (ha.run pos pins s σ H _ inv pre) ?_) two plain))
  rintro us s1 ⟨_, H1, inv1, rel, a, xs, z, rfl, sq, r⟩
  obtain ⟨_, u, rfl, rfl, ⟨tx, rfl⟩⟩ := vals2 rel
  obtain ⟨its, _, at_, _⟩ := inv1.list sq
  have low : a < s1.heap.objs.size := at_.lt
  have sep := zip_sep2 (N := s1.heap.objs.size) (fp1 := [a]) (fp2 := []) (fun b hb => (List.mem_singleton.mp hb).symm ▸ low) nofun
  exact zip_begins2 (begins_list a its.toArray) (begins_text z tx) at_.isList trivial fun hp zi ti to_ i1 i2 _ old =>
    wpAny_pyIter_zip zi ⟨_, _, _, _, H1, rfl, inv1.kept (t' := s1.toks) old, turn_zipLS sep (Nat.ne_of_lt low), ⟨zi, ti, ⟨_, _, to_⟩, ⟨_, i1, rfl, rfl⟩, ⟨_, i2, rfl, rfl⟩⟩, late5 inv1, r⟩
theorem walk_zipLS {K : PySem.W.Frag} {a : Addr} {xs : List V} {z : Str} (hl : xs.length = z.cps.size) : Walk (ItzLS K a z) xs.length (fun H => SqL K H a xs) (YPair (fun i => xs[i]?) (fun i => (z.cps[i]?).map fun c => .str ⟨#[c]⟩)) where
  goes := fun i H hi h => ⟨xs, xs[i], z.cps[i]'(by omega), h, by simp [hi], by simp⟩
  stops := fun H h => ⟨xs, h, by omega⟩
  yields := fun i H x H' hi h ⟨T, y, c, e1, e2, e3, e4, e5⟩ => ⟨T, y, _, e1, e2, e3, e4 xs h, by show Option.map _ z.cps[i]? = _; rw [e5]; rfl⟩
end RM

set_option Elab.async false
set_option linter.all false
set_option maxRecDepth 100000
set_option maxHeartbeats 2000000
set_option pp.maxSteps 400
set_option pp.deepTerms false
namespace RM
open PySem PySem.Spec PyProof.Rows L2
section
variable {P : Program} {w : World} {K : PySem.W.Frag} {mg : Str → Option Value} {base : Heap}
/-! ### number_of -/
def optV : Option Int → V
  | none => .non
  | some n => .int n
def spNum : Sp := fun vs H Q _ => match vs with
  | [x] => ∃ z : Str, x = .str z ∧ z.length ≤ 1000 ∧ Q (optV (numOf z)) H
  | _ => False
theorem sc_number_of : FnScope ["word", "figures", "figure"] ["word"] (defScope s_number_of) := ⟨rfl, rfl, rfl, by decide +kernel, rfl, by decide +kernel, by decide +kernel⟩
theorem minus_iff (z : Str) : V.str (cutS z none (some 1)) = V.str "-" ↔ (cl z).take 1 = [45] := by
  have e : cl ("-" : Str) = [45] := by decide +kernel
  constructor
  · intro h
    injection h with h1
    have h2 := congrArg cl h1
    rwa [show (some (1 : Int)) = some ((1 : Nat) : Int) from rfl, cut_pre, e] at h2
  · intro h
    refine congrArg V.str (str_ext ?_)
    show cl (cutS z none (some ((1 : Nat) : Int))) = cl "-"
    rw [cut_pre, e, h]
theorem zero_iff (z : Str) : V.str z = V.str "0" ↔ cl z = [48] := by
  have e : cl ("0" : Str) = [48] := by decide +kernel
  constructor
  · intro h
    injection h with h1
    rw [h1, e]
  · intro h
    exact congrArg V.str (str_ext (h.trans e.symm))
theorem numOf_no {z : Str} (h : (figs z).length = 0 ∨ 2 < (figs z).length ∨ ((figs z)[0]? = some 48 ∧ cl z ≠ [48]) ∨ (figs z).all isDig = false) : numOf z = none := by unfold numOf; rw [if_pos h]
theorem numOf_yes {z : Str} (h : ¬ ((figs z).length = 0 ∨ 2 < (figs z).length ∨ ((figs z)[0]? = some 48 ∧ cl z ≠ [48]) ∨ (figs z).all isDig = false)) : ∃ n, PySem.intText? z = some n ∧ numOf z = some n := by
  have h' := h
  simp only [not_or, Bool.not_eq_false] at h'
  obtain ⟨n, e, _⟩ := fig_int h'.1 h'.2.1 h'.2.2.2
  exact ⟨n, e, by unfold numOf; rw [if_neg h, e]⟩
theorem figs_len (z : Str) : (figs z).length ≤ z.length := by
  rw [← cl_len]
  unfold figs
  split
  · rw [List.length_drop]; omega
  · exact Nat.le_refl _
theorem figs_more (z : Str) : z.length ≤ (figs z).length + 1 := by
  rw [← cl_len]
  unfold figs
  split
  · rw [List.length_drop]; omega
  · omega
theorem c_number_of (T : Top w K mg) : Cal P w K mg base CX0 1 "number_of" spNum := by
  refine cal_0 (f_number_of T) (g_number_of T) sc_number_of (fun _ _ _ _ _ _ us hl => match us, hl with | [_], _ => rfl) (fun vs H Q E h => match vs, h with | [_], _ => rfl) (fun cdv A outer s H vs Q E hr h => ?_)
  match vs, h with
  | [x], h =>
  obtain ⟨z, rfl, hz, q⟩ := h
  have hz' : z.length ≤ sizeLine := Nat.le_of_lt (small1000 hz)
  have no := fun h => show Q .non H from by have := q; rw [numOf_no h] at this; exact this
  refine ⟨_, (pss_cons (ps_set (i := 1) sc_number_of.nd rfl (Or.inl rfl) (pv 0))
    (pss_cons (ps_mid (ps_if (pt_cmpR op_eq (pe_slice sl_str (pv 0) po_none (po_some pe_int)) pe_str (nomark _))
      (pss_one (ps_set (i := 1) sc_number_of.nd rfl (Or.inl rfl) (pe_slice sl_str (pv 0) (po_some pe_int) po_none)))
      pss_nil))
    (pss_cons (ps_mid (ps_if (PW.pt (pw_or (pt_not (pt_chain op_le op_le pe_int (pcb (z_len T) call_len_str boot_len (pa_cons (pv 1) pa_nil)) pe_int)) (pw_or1 (PW.pt (pw_and (pt_cmpR op_eq (pe_ix ix_str (pv 1) pe_int (fun _ _ => rfl)) pe_str (nomark _)) (pw_and1 (pt_cmpR op_ne (pv 0) pe_str (nomark _))))))))
      (pss_one (ps_ret pe_non))
      pss_nil))
    (pss_cons (ps_for PassesOwn.never rfl (pi_str (pv 1)) (pg_name (i := 2) sc_number_of.nd rfl (Or.inl rfl))
      (pss_one (ps_if (pt_cmpR op_notIn_sign (pv 2) (pglS (i_FIGURES T)) rfl)
      (pss_one (ps_ret pe_non))
      pss_nil)))
    (pss_one (ps_ret (pct (z_int T) call_int_str boot_int (pa_cons (pv 0) pa_nil)))))))), ?_⟩
  refine ⟨_, rfl, fun σ H' => H' = H ∧ ∃ F v, σ = [some (.str z), some (.str F), v] ∧ cl F = figs z, ?_, ?_⟩
  · refine ⟨_, rfl, _, rfl, z, rfl, hz', rfl, _, rfl, ?_⟩
    refine ifB (fun c => ?_) (fun c => ?_)
    · refine ⟨_, rfl, _, rfl, z, rfl, hz', rfl, _, _, rfl, ?_⟩
      have := (minus_iff z).mp (of_decide_eq_true c)
      rw [show (some (1 : Int)) = some ((1 : Nat) : Int) from rfl, cut_suf]
      unfold figs
      rw [if_pos this]
    · refine ⟨rfl, z, _, rfl, ?_⟩
      have := fun h => of_decide_eq_false c ((minus_iff z).mpr h)
      unfold figs
      rw [if_neg this]
  · rintro σ H' ⟨rfl, F, v, rfl, hF⟩
    have lF : F.length = (figs z).length := by rw [← cl_len, hF]
    have lz := figs_len z
    refine ⟨fun σ H1 => H1 = H' ∧ ∃ F v, σ = [some (.str z), some (.str F), v] ∧ cl F = figs z ∧ ¬ ((figs z).length = 0 ∨ 2 < (figs z).length ∨ ((figs z)[0]? = some 48 ∧ cl z ≠ [48])), ?_, ?_⟩
    · refine ⟨_, rfl, _, rfl, Nat.le_of_lt (small1000 (by omega)), _, _, rfl, rfl, _, rfl, ?_⟩
      by_cases c1 : 1 ≤ (F.length : Int)
      case neg =>
        rw [decide_eq_false c1]
        exact iteF ⟨_, rfl, iteT (iteT (no (.inl (by omega))))⟩
      rw [decide_eq_true c1]
      refine iteT ?_
      refine ⟨_, _, rfl, rfl, _, rfl, ?_⟩
      by_cases c2 : (F.length : Int) ≤ 2
      case neg =>
        rw [decide_eq_false c2]
        exact iteT (iteT (no (.inr (.inl (by omega)))))
      rw [decide_eq_true c2]
      refine iteF ?_
      obtain ⟨c0, hc0⟩ : ∃ c0, (cl F)[0]? = some c0 := ⟨(cl F)[0]'(by rw [cl_len]; omega), by simp⟩
      have hc1 := hc0
      rw [hF] at hc1
      refine ⟨_, rfl, F, 0, c0, rfl, rfl, Nat.le_of_lt (small1000 (by omega)), atI_nat (j := 0) hc0, rfl, _, rfl, ?_⟩
      have e0 : ("0" : Str) = ⟨#[48]⟩ := by decide +kernel
      rw [e0, sgn]
      by_cases c3 : c0 = 48
      · subst c3
        refine iteT ?_
        refine ⟨_, rfl, rfl, _, rfl, ?_⟩
        by_cases c4 : cl z = [48]
        · refine ifF (by rw [← e0, decide_eq_true ((zero_iff z).mpr c4)]; rfl) ?_
          exact ⟨rfl, F, v, rfl, hF, by rw [not_or, not_or]; exact ⟨by omega, by omega, fun h => h.2 c4⟩⟩
        · refine ifT (by rw [← e0, decide_eq_false fun h => c4 ((zero_iff z).mp h)]; rfl) ?_
          exact no (.inr (.inr (.inl ⟨hc1, c4⟩)))
      · rw [decide_eq_false c3]
        refine iteF (iteF ⟨rfl, F, v, rfl, hF, ?_⟩)
        rw [not_or, not_or]
        exact ⟨by omega, by omega, fun h => c3 (by rw [hc1] at h; exact Option.some.inj h.1)⟩
    rintro σ H' ⟨rfl, F, v, rfl, hF, ok⟩
    have lF : F.length = (figs z).length := by rw [← cl_len, hF]
    refine ⟨_, rfl, F, rfl, for_it walk_str (fun i σ H1 => H1 = H' ∧ (∃ v, σ = [some (.str z), some (.str F), v]) ∧ ((figs z).take i).all isDig = true) ⟨rfl, ⟨_, rfl⟩, rfl⟩ (fun _ _ _ _ _ => trivial) ?_ ?_⟩
    · rintro i x σ H1 H2 hi ⟨rfl, ⟨v, rfl⟩, hal⟩ ⟨rfl, c, hc, rfl⟩
      have hc' : (figs z)[i]? = some c := by rw [← hF]; simpa using hc
      refine ⟨_, rfl, c, _, rfl, rfl, _, rfl, ?_⟩
      by_cases m : c ∈ ("0123456789" : Str).cps.toList
      · rw [decide_eq_true m]
        refine iteF ⟨rfl, ⟨_, rfl⟩, ?_⟩
        rw [List.take_add_one, hc', List.all_append, hal]
        show ([c].all isDig) = true
        simp only [List.all_cons, List.all_nil, Bool.and_true]
        exact decide_eq_true m
      · rw [decide_eq_false m]
        refine iteT (no (.inr (.inr (.inr ?_))))
        rw [List.all_eq_false]
        exact ⟨c, List.mem_of_getElem? hc', by unfold isDig; rw [decide_eq_false m]; exact Bool.false_ne_true⟩
    · rintro σ H1 ⟨rfl, ⟨v, rfl⟩, hal⟩
      have lf : F.cps.toList.length = (figs z).length := by rw [← hF]
      rw [List.take_of_length_le (by first | omega | (rw [← hF]; simp))] at hal
      obtain ⟨n, e1, e2⟩ := numOf_yes (z := z) (by rw [not_or, not_or, not_or]; rw [not_or, not_or] at ok; exact ⟨ok.1, ok.2.1, ok.2.2, by rw [hal]; simp⟩)
      rw [e2] at q
      refine ⟨_, rfl, z, n, rfl, e1, ?_, q⟩
      have := figs_more z
      omega
end
end RM

set_option Elab.async false
set_option linter.all false
set_option maxRecDepth 100000
set_option maxHeartbeats 2000000
set_option pp.maxSteps 600
set_option pp.deepTerms false
namespace RM
open PySem PySem.Spec PyProof.Rows L2
theorem keys_below {g : WM} {k : Str} (h : below g k = true) : k ∉ wKeys g := fun z => by
  obtain ⟨q, hq, e⟩ := List.mem_map.mp z
  have := of_decide_eq_true (List.all_eq_true.mp h q hq)
  rw [e] at this
  exact List.lt_irrefl _ this
theorem rdW_len {z : Str} (h : (Txt.split z "=").length ≠ 2) : rdW z = none := by
  unfold rdW
  split
  · rename_i k n e
    rw [e] at h
    exact absurd rfl h
  · rfl
theorem rdW_two {z k n : Str} (h : Txt.split z "=" = [k, n]) : rdW z = if isWord k = true then (numOf n).map fun i => (k, i) else none := by unfold rdW; rw [h]
theorem rdWs_stop {ws : List Str} {i : Nat} {g : WM} {wd : Str} (hg : rdWs (ws.take i) [] = some g) (hw : ws[i]? = some wd) (no : ∀ q, rdW wd = some q → below g q.1 = false) : rdWs ws [] = none := by
  have il := (List.getElem?_eq_some_iff.mp hw).1
  have e : ws = ws.take i ++ wd :: ws.drop (i + 1) := by
    have h1 := List.drop_eq_getElem_cons il
    rw [(List.getElem?_eq_some_iff.mp hw).2] at h1
    rw [← h1, List.take_append_drop]
  rw [e, rdWs_app, hg]
  show rdWs (wd :: ws.drop (i + 1)) g = none
  rw [rdWs]
  split
  · rfl
  · rename_i q hq
    rw [no q hq, if_neg Bool.false_ne_true]
theorem rdWs_next {ws : List Str} {i : Nat} {g : WM} {wd : Str} {q : Str × Int} (hg : rdWs (ws.take i) [] = some g) (hw : ws[i]? = some wd) (hq : rdW wd = some q) (b : below g q.1 = true) : rdWs (ws.take (i + 1)) [] = some (g ++ [q]) := by
  rw [List.take_add_one, hw, rdWs_app, hg]
  show rdWs [wd] g = _
  rw [rdWs, hq]
  show (if below g q.1 = true then rdWs [] (g ++ [q]) else none) = _
  rw [if_pos b]
  rfl
section
variable {P : Program} {w : World} {K : PySem.W.Frag} {mg : Str → Option Value} {base : Heap}
theorem chg_of {H : Hp} {a : Addr} {m g : WM} (h : MapAt H (He.ga K "Change") "given" a m) (p : m.Perm g) (ok : okM g) (s : sortedS (wKeys g) = true) (l : g.length ≤ 4) : ChgAt K H a g := by
  obtain ⟨dx, q, h1, h2, h3, h4⟩ := id h
  have : m = g := sort_one p ok.2 s h4
  rw [this] at h
  exact ⟨h, l⟩
def spChangeOf (K : PySem.W.Frag) : Sp := fun vs H Q _ => match vs with
  | [x] => ∃ z : Str, x = .str z ∧ z.length ≤ 900 ∧ (rdL z = none → ∀ H', Same H H' → Q .non H') ∧ ∀ g, rdL z = some g → ∀ a H', Same H H' → H a = none → ChgAt K H' a g → Q (.ref a) H'
  | _ => False
theorem dash_rd : rdL "-" = some [] := by decide +kernel
theorem sc_change_of : FnScope ["line", "given", "word", "parts", "other"] ["line"] (defScope s_change_of) := ⟨rfl, rfl, rfl, by decide +kernel, rfl, by decide +kernel, by decide +kernel⟩
theorem c_change_of (T : Top w K mg) : Cal P w K mg base CX0 6 "change_of" (spChangeOf K) := by
  refine cal_0 (f_change_of T) (g_change_of T) sc_change_of (fun _ _ _ _ _ _ us hl => match us, hl with | [_], _ => rfl) (fun vs H Q E h => match vs, h with | [_], _ => rfl) (fun cdv A outer s H vs Q E hr h => ?_)
  match vs, h with
  | [x], h =>
  obtain ⟨z, rfl, hz, qn, qs⟩ := h
  refine ⟨_, (pss_cons (ps_if (pt_cmpR op_eq (pv 0) pe_str (nomark _))
      (pss_one (ps_ret (pmk (c_Change_init T) hr (pa_cons pe_dnewK pa_nil))))
      pss_nil)
    (pss_cons (ps_set (i := 1) sc_change_of.nd rfl (Or.inl rfl) pe_dnewK)
    (pss_cons (ps_for PassesOwn.never rfl (pi_seqA (pe_split (pv 0) pe_str)) (pg_name (i := 2) sc_change_of.nd rfl (Or.inl rfl))
      (pss_cons (ps_set (i := 3) sc_change_of.nd rfl (Or.inr rfl) (pe_split (pv 2) pe_str))
    (pss_cons (ps_if (PW.pt (pw_or (pt_cmpR op_ne (pcb (z_len T) call_len_seq boot_len (pa_cons (pv 3) pa_nil)) pe_int (nomark _)) (pw_or (pt_not (pt_val (pc (c_is_word T) hr (pa_cons (pe_ix ix_list (pv 3) pe_int (fun _ _ => rfl)) pa_nil)))) (pw_or (pt_cmp (pc_isN (pc (c_number_of T) hr (pa_cons (pe_ix ix_list (pv 3) pe_int (fun _ _ => rfl)) pa_nil))) rfl) (pw_or1 (pt_not (pt_val (pc (c_is_value T) hr (pa_cons (pc (c_number_of T) hr (pa_cons (pe_ix ix_list (pv 3) pe_int (fun _ _ => rfl)) pa_nil)) pa_nil)))))))))
      (pss_one (ps_ret pe_non))
      pss_nil)
    (pss_cons (ps_if (pt_val (pcb (z_any T) (cr_any rfl) boot_any (pa_cons (pe_lock (pe_lc (own := [("other", 4)]) rfl sc_change_of.nd (pi_keys (pv 1)) (blkOk_by (own := [("other", 4)]) (N := ["line", "given", "word", "parts", "other"]) (sc := defScope s_change_of) (by decide +kernel)) (fun _ _ _ _ _ => (pg_name (i := 4) sc_change_of.nd rfl (Or.inl rfl) (Or.inr rfl))) (fun _ _ _ _ _ => pts_nil) (fun _ _ _ _ _ => (pe_not (pe_cmpR op_lt_str (pv 4) (pe_ix (ix_list' (K := K) rfl) (pv 3) pe_int (fun _ _ => rfl)) (nomark _)))))) pa_nil)))
      (pss_one (ps_ret pe_non))
      pss_nil)
    (pss_one (ps_dput (hu_of hr) (pv 1) (pe_ix ix_list (pv 3) pe_int (fun _ _ => rfl)) (pc (c_number_of T) hr (pa_cons (pe_ix ix_list (pv 3) pe_int (fun _ _ => rfl)) pa_nil)) rfl))))))
    (pss_cons (ps_if (pt_cmpR op_gt (pcb (z_len T) call_lenD boot_len (pa_cons (pv 1) pa_nil)) pe_int (nomark _))
      (pss_one (ps_ret pe_non))
      pss_nil)
    (pss_one (ps_ret (pmk (c_Change_init T) hr (pa_cons (pv 1) pa_nil)))))))), ?_⟩
  refine ⟨_, rfl, rfl, _, rfl, ?_⟩
  refine ifB (fun c => ?_) (fun c => ?_)
  · have e : z = "-" := by injection of_decide_eq_true c
    subst e
    intro r nr x dx2 hx hdx hne
    have mI := mk_in (C := He.ga K "Change") hx hdx hne
    refine ⟨x, dx2, r, [], rfl, rfl, upd_same, mI _ _ upd_same, ⟨by simp, by simp⟩, Nat.zero_le _, Nat.zero_le _, fun H' m2 off mp pm => ⟨rfl, ?_⟩⟩
    have s1 : Same H (upd H r (.dK [])) := smNew1 nr _
    exact qs [] dash_rd x H' (s1.trans (mk_sm hx hdx off)) (s1.free hx) (chg_of mp pm ⟨by simp, by simp⟩ rfl (by decide))
  have nd : z ≠ "-" := fun e => of_decide_eq_false c (by rw [e])
  have rd : rdL z = (rdWs (Txt.split z " ") []).bind fun g => if g.length ≤ 4 then some g else none := by unfold rdL; rw [if_neg nd]
  refine fun D nD => ⟨_, rfl, ?_⟩
  have s0 := smNew1 nD (.dK [])
  refine ⟨⟨_, rfl⟩, _, _, rfl, rfl, by decide +kernel, by (show _ ≤ 16777216); omega, fun l nl => ?_⟩
  have lc := split_cnt z " "
  have Dl : D ≠ l := fun e => by rw [e, upd_same] at nl; cases nl
  let H0 : Hp := upd (fun _ => none) l (.lst ((Txt.split z " ").map V.str))
  have sH0 : ∀ H' : Hp, H' l = some (.lst ((Txt.split z " ").map V.str)) → Same H0 H' := fun H' h b u hb => by
    by_cases e : b = l
    · rw [e] at hb ⊢
      rw [show H0 l = _ from upd_same] at hb
      rw [h, hb]
    · rw [show H0 b = none from upd_ne e] at hb
      cases hb
  refine seqA_of (H0 := H0) (.inl (SqL.of upd_same)) (sH0 _ upd_same) fun J wk => ?_
  have s1 := smNew s0 nl (.lst ((Txt.split z " ").map V.str))
  have lm : ((Txt.split z " ").map V.str).length = (Txt.split z " ").length := List.length_map ..
  refine for_it wk (fun i σ H' => Same H H' ∧ H' l = some (.lst ((Txt.split z " ").map V.str)) ∧ ∃ g v2 v3 v4, σ = [some (.str z), some (.ref D), v2, v3, v4] ∧ H' D = some (.dK (mK g)) ∧ rdWs ((Txt.split z " ").take i) [] = some g ∧ g.length = i) ?_ ?_ ?_ ?_
  · exact ⟨s1, upd_same, [], _, _, _, rfl, by rw [upd_ne Dl, upd_same]; rfl, rfl, rfl⟩
  · exact fun i σ H' _ h => sH0 H' h.2.1
  · rintro i x σ H1 H2 hi ⟨sa, hl, g, v2, v3, v4, rfl, hD, hg, lg⟩ ⟨rfl, hx⟩
    have iw : i < (Txt.split z " ").length := by rw [← lm]; exact hi
    obtain ⟨wd, hw, rfl⟩ : ∃ wd, (Txt.split z " ")[i]? = some wd ∧ x = .str wd := by
      rw [List.getElem?_map] at hx
      obtain ⟨y, hy, e⟩ := Option.map_eq_some_iff.mp hx
      exact ⟨y, hy, e.symm⟩
    have wl := (split_part (List.mem_of_getElem? hw)).1
    have nope : (∀ q, rdW wd = some q → below g q.1 = false) → ∀ H', Same H H' → Q .non H' := fun no H' s' => by
      refine qn ?_ H' s'
      rw [rd, rdWs_stop hg hw no]
      rfl
    refine ⟨_, rfl, ⟨_, rfl⟩, _, _, rfl, rfl, by decide +kernel, by (show _ ≤ 16777216); omega, fun p np => ?_⟩
    have lp : D ≠ p := ne_of_none hD np
    have llp : l ≠ p := ne_of_none hl np
    have sp := smNew sa np (.lst ((Txt.split wd "=").map V.str))
    have hp1 : (upd H2 p (.lst ((Txt.split wd "=").map V.str))) p = some (.lst ((Txt.split wd "=").map V.str)) := upd_same
    have hD3 : (upd H2 p (.lst ((Txt.split wd "=").map V.str))) D = some (.dK (mK g)) := by rw [upd_ne lp]; exact hD
    have hl3 : (upd H2 p (.lst ((Txt.split wd "=").map V.str))) l = some (.lst ((Txt.split z " ").map V.str)) := by rw [upd_ne llp]; exact hl
    generalize upd H2 p (.lst ((Txt.split wd "=").map V.str)) = H3 at sp hp1 hD3 hl3 ⊢
    refine ⟨_, rfl, p, _, rfl, .inl (SqL.of hp1), rfl, _, rfl, ?_⟩
    by_cases l2 : (Txt.split wd "=").length = 2
    case neg =>
      rw [decide_eq_false (fun e => by
        injection e with e
        rw [List.length_map] at e
        exact l2 (by omega))]
      exact iteT (iteT (nope (fun q hq => by rw [rdW_len l2] at hq; cases hq) _ sp))
    obtain ⟨k, n, e2⟩ : ∃ k n, Txt.split wd "=" = [k, n] := by
      match Txt.split wd "=", l2 with
      | [k, n], _ => exact ⟨k, n, rfl⟩
    have kl := (split_part (z := wd) (y := "=") (w := k) (by rw [e2]; simp)).1
    have nl2 := (split_part (z := wd) (y := "=") (w := n) (by rw [e2]; simp)).1
    have hp2 : H3 p = some (.lst [.str k, .str n]) := by rw [hp1, e2]; rfl
    have two := rdW_two e2
    rw [e2]
    refine iteF ?_
    refine ⟨_, rfl, p, _, 0, _, rfl, rfl, SqL.of hp2, at0, k, rfl, Nat.le_of_lt (small1000 (by omega)), _, rfl, ?_⟩
    cases hk : isWord k with
    | false =>
      rw [hk, if_neg Bool.false_ne_true] at two
      exact iteT (iteT (nope (fun q hq => by rw [two] at hq; cases hq) _ sp))
    | true =>
    rw [hk, if_pos rfl] at two
    refine iteF ?_
    refine ⟨_, rfl, p, _, 1, _, rfl, rfl, SqL.of hp2, at1, n, rfl, by omega, ?_⟩
    cases hn : numOf n with
    | none =>
      rw [hn] at two
      exact ⟨true, rfl, iteT (iteT (nope (fun q hq => by rw [two] at hq; cases hq) _ sp))⟩
    | some v =>
    rw [hn] at two
    have two : rdW wd = some (k, v) := two
    refine ⟨false, rfl, iteF ?_⟩
    refine ⟨_, rfl, p, _, 1, _, rfl, rfl, SqL.of hp2, at1, n, rfl, by omega, v, by rw [hn]; rfl, _, rfl, ?_⟩
    refine ifF (by rw [numOf_val hn]; rfl) ?_
    -- any
    refine ⟨D, .dK (mK g), hD3, trivial, fun od => ?_⟩
    have pD : p ≠ D := fun e => lp e.symm
    refine ⟨_, rfl, D, od, rfl, .inl ⟨mK g, upd_same, fun L nL => ?_⟩⟩
    have lk : (mK g).length = g.length := List.length_map ..
    have hpL : (upd H3 D (.frz od (.dK (mK g)))) p = some (.lst [.str k, .str n]) := by rw [upd_ne pD]; exact hp2
    refine lc_opt walk_keys (fun (b : Bool) y _ => y = .bl b) (fun i => (g[i]?).map fun q => !decide (q.1.cps.toList < k.cps.toList)) nL (small1000 (by omega)) (fun H' e => e _ _ upd_same) (fun _ _ _ _ h _ => h) (fun _ _ _ _ _ h _ => h) ?_ ?_
    · rintro j x H4 H5 N hj e ⟨rfl, kk, v5, hkv, rfl⟩ hk2 _
      obtain ⟨q, hq, rfl, rfl⟩ := mK_get hkv
      refine ⟨rfl, yesI ?_⟩
      refine ⟨_, rfl, _, rfl, p, _, 0, _, rfl, rfl, SqL.of (e _ _ hpL), at0, q.1, k, rfl, rfl, ?_⟩
      exact ⟨_, rfl, hk2 _ _ (!decide (q.1.cps.toList < k.cps.toList)) (by rw [hq]; rfl) (Same.refl _) rfl⟩
    · intro H4 ys e hL hp'
      rw [lk, map_at] at hp'
      have hys : ys = (g.map fun q => !decide (q.1.cps.toList < k.cps.toList)).map V.bl := paired_eq hp'
      have eH := e _ _ (upd_same : (upd H3 D (.frz od (.dK (mK g)))) D = _)
      have LD : L ≠ D := fun z => by
        rw [z] at hL
        rw [hL] at eH
        cases eH
      have s4 : Same H3 (upd H4 D (.dK (mK g))) := same_back hD3 e
      refine ⟨eH, L, _, rfl, SqL.of (by rw [upd_ne LD, hL, hys]), _, rfl, ?_⟩
      have hD4 : (upd H4 D (.dK (mK g))) D = some (.dK (mK g)) := upd_same
      generalize upd H4 D (.dK (mK g)) = H5 at s4 hD4 ⊢
      have sx : Same H H5 := sp.trans s4
      have any : ((g.map fun q => !decide (q.1.cps.toList < k.cps.toList)).any id) = !below g k := by
        unfold below
        rw [List.any_map, List.all_eq_not_any_not, Bool.not_not]
        rfl
      rw [any]
      cases hb : below g k with
      | false =>
        refine iteT (nope (fun q hq => ?_) _ sx)
        rw [two] at hq
        cases hq
        exact hb
      | true =>
      refine iteF ?_
      refine ⟨_, rfl, p, _, 1, _, rfl, rfl, SqL.of (s4 _ _ hp2), at1, n, rfl, by omega, ?_⟩
      rw [hn]
      have dp : DPut H5 D (.str k) (.int v) (upd H5 D (.dK (mK (g ++ [(k, v)])))) := by
        have := DPut.k (k := .inr k) (v := .int v) hD4 (small1000 (by omega))
        rw [put_new (keys_below hb)] at this
        exact this
      refine ⟨_, rfl, _, rfl, p, _, 0, _, rfl, rfl, SqL.of (s4 _ _ hp2), at0, D, _, rfl, dp, ?_⟩
      refine ⟨smOut sx nD _, by rw [upd_ne Dl.symm]; exact s4 _ _ hl3, g ++ [(k, v)], _, _, _, rfl, upd_same, rdWs_next hg hw two hb, ?_⟩
      rw [List.length_append, lg]
      rfl
  · rintro σ H1 ⟨sa, hl, g, v2, v3, v4, rfl, hD, hg, lg⟩
    rw [lm] at hg lg
    rw [List.take_length] at hg
    refine ⟨_, rfl, D, _, rfl, hD, _, _, rfl, rfl, _, rfl, ?_⟩
    have lk : (mK g).length = g.length := List.length_map ..
    rw [lk]
    by_cases l4 : g.length ≤ 4
    case neg =>
      rw [decide_eq_true (by omega)]
      refine iteT (qn ?_ _ sa)
      rw [rd, hg]
      show (if g.length ≤ 4 then some g else none) = none
      rw [if_neg l4]
    rw [decide_eq_false (by omega)]
    refine iteF ?_
    have re : rdL z = some g := by
      rw [rd, hg]
      show (if g.length ≤ 4 then some g else none) = some g
      rw [if_pos l4]
    obtain ⟨_, ok, so, _⟩ := rdL_back re
    refine ⟨_, rfl, fun x dx2 hx hdx hne => ?_⟩
    have mI := mk_in (C := He.ga K "Change") hx hdx hne
    refine ⟨x, dx2, D, g, rfl, rfl, upd_same, mI _ _ hD, ok, Nat.zero_le _, l4, fun H' m2 off mp pm => ⟨rfl, ?_⟩⟩
    exact qs g re x H' (sa.trans (mk_sm hx hdx off)) (sa.free hx) (chg_of mp pm ok so l4)
end
end RM

set_option Elab.async false
set_option linter.all false
set_option maxRecDepth 100000
set_option maxHeartbeats 2000000
namespace RM
open PySem PySem.Spec PyProof.Rows L2
section
variable {P : Program} {w : World} {K : PySem.W.Frag} {mg : Str → Option Value} {base : Heap}
/-! ### an own exception with one field -/
/-- its __init__: the field holds the argument -/
def spExo (C : Addr) (f : Str) : Sp := fun vs H Q _ => match vs with
  | [x, v] => ∃ a, x = .ref a ∧ H a = some (exo a C none) ∧ ∀ dx, H dx = none → dx ≠ a → Q .non (upd (upd H dx (exd dx [(f, v)])) a (exo a C (some dx)))
  | _ => False
theorem exo_0 {qual x : Str} {C : Addr} {k : Nat} {sp : Sp} {st : Stmt} {f : Addr} {N ps : List Str} (F : ∃ fd, FunD K "__init__" qual (defArgs st) (defBody st) (defScope st) [] [] f fd) (T : OexC K C) (M : Meth K C "__init__" f) (hm : mg x = some (.ref C)) (S : FnScope N ps (defScope st))
    (hb : ∀ (kV doc pm : Value) (an : Option Addr) (cdv ct : Value) (us : List Value), us.length = ps.length → bindArgs (PySem.W.fnOf "__init__" qual (defArgs st) (defBody st) (defScope st) .none kV doc pm an cdv ct) ⟨us, []⟩ = pure (ps.zip us))
    (len : ∀ vs H Q E, sp vs H Q E → vs.length = ps.length) (h : Body0 P w K mg base N qual st f k sp) : Exo P w K mg base (k + 1) x C sp :=
  let ⟨fd, F⟩ := F
  ⟨f, fd, ps, T, M, fn_0 F S len h, hm, F.bindsN hb⟩
/-- raise C(v): what is to be shown -/
theorem raise1 {C : Addr} {f : Str} {v : V} {H : Hp} {Q : XK} (q : ∀ d H', H d = none → Same H H' → H' d = some (.xd [(f, v)]) → Q (.ref C) (some d) H') :
    [v].length ≤ 1000 ∧ ∀ a, H a = none → spExo C f (.ref a :: ([v] ++ [])) (upd H a (exo a C none))
      (fun u H2 => u = .non ∧ ∃ (d : Addr) (fs : List (Str × V)), H2 a = some (exo a C (some d)) ∧ H2 d = some (exd d fs) ∧ H d = none ∧ Q (.ref C) (some d) (upd (L2.del H2 a) d (.xd fs))) (fun _ _ _ => False) := by
  refine ⟨by show 1 ≤ 1000; omega, fun a ha => ⟨a, rfl, upd_same, fun dx h1 h2 => ⟨rfl, dx, [(f, v)], upd_same, ?_, ?_, ?_⟩⟩⟩
  · rw [upd_ne h2, upd_same]
  · rw [upd_ne h2] at h1; exact h1
  · have hd : H dx = none := by rw [upd_ne h2] at h1; exact h1
    refine q dx _ hd (fun b o hb => ?_) upd_same
    have n1 : b ≠ a := ne_of_none hb ha
    have n2 : b ≠ dx := ne_of_none hb hd
    rw [upd_ne n2, L2.del_ne n1, upd_ne n1, upd_ne n2, upd_ne n1]
    exact hb
end
/-- all but a is as it was -/
def Off (a : Addr) (H H' : Hp) : Prop := ∀ b u, b ≠ a → H b = some u → H' b = some u
/-! ### what is raised while a thing is locked: it is unlocked on the way out -/
def WUnl (X : Cx) (W : WX) : WX := fun cls dx σ H => ∃ d od u, H d = some (.frz od u) ∧ (∀ o' u', X.H_0 d ≠ some (.frz o' u')) ∧ W cls dx σ (upd H d u)
theorem takes_unl {X : Cx} {W : WX} (tk : Takes X W) : Takes X (WUnl X W) := by
  rintro u s' ⟨a, B, sI, pins, σ, H, cls, dx, e, I, nb, up, sky, na, os, ag, d, od, v, hd, hn, w⟩
  refine tk u s' ⟨a, B, sI, pins, σ, upd H d v, cls, dx, e, I.unlock hd hn, nb, up, sky, ?_, os, ag, w⟩
  rw [upd_ne fun z => by rw [z, hd] at na; cases na]
  exact na
theorem raise1U {X : Cx} {W : WX} {σ : L2.St} {C : Addr} {f : Str} {v : V} {H : Hp} (q : ∀ d H', H d = none → Same H H' → H' d = some (.xd [(f, v)]) → WUnl X W (.ref C) (some d) σ H') :
    [v].length ≤ 1000 ∧ ∀ a, H a = none → spExo C f (.ref a :: ([v] ++ [])) (upd H a (exo a C none))
      (fun u H2 => u = .non ∧ ∃ (d : Addr) (fs : List (Str × V)), H2 a = some (exo a C (some d)) ∧ H2 d = some (exd d fs) ∧ H d = none ∧ WUnl X W (.ref C) (some d) σ (upd (L2.del H2 a) d (.xd fs))) (fun _ _ _ => False) := raise1 (Q := fun cls d H' => WUnl X W cls d σ H') q
end RM

set_option Elab.async false
set_option linter.all false
set_option maxRecDepth 100000
set_option maxHeartbeats 2000000
set_option pp.maxSteps 600
set_option pp.deepTerms false
namespace RM
open PySem PySem.Spec PyProof.Rows L2
def badL (ls : List Str) : Option Nat := ls.findIdx? fun z => (rdL z).isNone
theorem badL_at {ls : List Str} {i : Nat} {z : Str} {gs : List WM} (h : (ls.take i).map rdL = gs.map some) (hz : ls[i]? = some z) (n : rdL z = none) : badL ls = some i := by
  unfold badL
  obtain ⟨il, e⟩ := List.getElem?_eq_some_iff.mp hz
  rw [List.findIdx?_eq_some_iff_getElem]
  refine ⟨il, by rw [e, n]; rfl, fun j hj => ?_⟩
  have hm : rdL ls[j] ∈ (ls.take i).map rdL := List.mem_map.mpr ⟨ls[j], List.mem_iff_getElem.mpr ⟨j, by rw [List.length_take]; omega, by rw [List.getElem_take]⟩, rfl⟩
  rw [h] at hm
  obtain ⟨g, _, e2⟩ := List.mem_map.mp hm
  rw [← e2]
  exact Bool.false_ne_true
theorem badL_none {ls : List Str} {gs : List WM} (h : ls.map rdL = gs.map some) : badL ls = none := by
  unfold badL
  rw [List.findIdx?_eq_none_iff]
  intro z hz
  have hm : rdL z ∈ ls.map rdL := List.mem_map.mpr ⟨z, hz, rfl⟩
  rw [h] at hm
  obtain ⟨g, _, e2⟩ := List.mem_map.mp hm
  rw [← e2]
  rfl
section
variable {P : Program} {w : World} {K : PySem.W.Frag} {mg : Str → Option Value} {base : Heap}
theorem ChgAt.lst {H : Hp} {a F : Addr} {g : WM} {l l' : List V} (hF : H F = some (.lst l)) (c : ChgAt K H a g) : ChgAt K (upd H F (.lst l')) a g := by
  obtain ⟨⟨dx, p, h1, h2, h3, h4⟩, h5⟩ := c
  have n1 : a ≠ F := fun e => by rw [e, hF] at h1; cases h1
  have n2 : p ≠ F := fun e => by rw [e, hF] at h2; cases h2
  exact ⟨⟨dx, p, by rw [upd_ne n1]; exact h1, by rw [upd_ne n2]; exact h2, h3, h4⟩, h5⟩
theorem ChgsAt.lst {H : Hp} {F : Addr} {cs : List V} {gs : List WM} {l l' : List V} (hF : H F = some (.lst l)) (h : ChgsAt K H cs gs) : ChgsAt K (upd H F (.lst l')) cs gs := paired_mono h fun v g ⟨a, e1, c⟩ => ⟨a, e1, c.lst hF⟩
theorem sc_BadText_init : FnScope ["self", "line"] ["self", "line"] (defScope s_BadText_init) := ⟨rfl, rfl, rfl, by decide +kernel, rfl, by decide +kernel, by decide +kernel⟩
theorem c_BadText_init (T : Top w K mg) : Exo P w K mg base 1 "BadText" (He.ga K "BadText") (spExo (He.ga K "BadText") "line") := by
  refine exo_0 (f_BadText_init T) (oexB_ok (oex_BadText T)) (me_BadText_init T) (g_BadText T) sc_BadText_init (fun _ _ _ _ _ _ us hl => match us, hl with | [_, _], _ => rfl) (fun vs H Q E h => match vs, h with | [_, _], _ => rfl) (fun cdv A outer s H vs Q E hr h => ?_)
  match vs, h with
  | [x, v], h =>
  obtain ⟨a, rfl, ha, q⟩ := h
  refine ⟨_, (pss_one (ps_ost (pv 0) (pv 1))), ?_⟩
  exact ⟨_, rfl, _, rfl, a, _, rfl, oexB_ok (oex_BadText T), na_BadText_line T, .inl ⟨ha, fun dx h1 h2 => q dx h1 h2⟩⟩
def linesOf (z : Str) : List Str := if z = "" then [] else Txt.split z "\n"
def spReadC (K : PySem.W.Frag) : Sp := fun vs H Q E => match vs with
  | [x] => ∃ z : Str, x = .str z ∧ z.length ≤ 900 ∧
    (∀ gs, (linesOf z).map rdL = gs.map some → ∀ p cs H', Same H H' → H p = none → H' p = some (.lst cs) → ChgsAt K H' cs gs → Q (.ref p) H') ∧
    ∀ k, badL (linesOf z) = some k → ∀ d H', Same H H' → H' d = some (.xd [("line", .int ((k + 1 : Nat) : Int))]) → E (.ref (He.ga K "BadText")) (some d) H'
  | _ => False
theorem sc_read_changes : FnScope ["text", "found", "at", "line", "change"] ["text"] (defScope s_read_changes) := ⟨rfl, rfl, rfl, by decide +kernel, rfl, by decide +kernel, by decide +kernel⟩
theorem c_read_changes (T : Top w K mg) : Cal P w K mg base (L2.CX P w) 8 "read_changes" (spReadC K) := by
  refine cal_X (f_read_changes T) (g_read_changes T) sc_read_changes (fun _ _ _ _ _ _ us hl => match us, hl with | [_], _ => rfl) (fun vs H Q E h => match vs, h with | [_], _ => rfl) (fun cdv A outer s H vs Q E hr h => ?_)
  match vs, h with
  | [x], h =>
  obtain ⟨z, rfl, hz, qs, qe⟩ := h
  refine ⟨_, (pss_cons (ps_if (pt_cmpR op_eq (pv 0) pe_str (nomark _))
      (pss_one (ps_ret (pe_lst pa_nil)))
      pss_nil)
    (pss_cons (ps_set (i := 1) sc_read_changes.nd rfl (Or.inl rfl) (pe_lst pa_nil))
    (pss_cons (ps_for (passes_of rfl) rfl (pi_enumA (by rfl) (z_enumerate T) (pa_cons (pe_split (pv 0) pe_str) pa_nil)) (pg_tup rfl (pgs_cons (pg_name (i := 2) sc_read_changes.nd rfl (Or.inl rfl)) (pgs_cons (pg_name (i := 3) sc_read_changes.nd rfl (Or.inl rfl)) pgs_nil)))
      (pss_cons (ps_set (i := 4) sc_read_changes.nd rfl (Or.inl rfl) (pc (c_change_of T) hr (pa_cons (pv 3) pa_nil)))
    (pss_cons (ps_if (pt_cmp (pc_isN (pv 4)) rfl)
      (pss_one (ps_raiseX (takes_of rfl rfl rfl rfl) (c_BadText_init T) hr (pa_cons (pe_op op_add (pv 2) pe_int) pa_nil)))
      pss_nil)
    (pss_one (ps_expr (pe_bm PySem.F.plainAttrs_list PySem.F.slot_list_append PySem.F.type_list_append mt_append (pv 1) (pa_cons (pv 4) pa_nil)))))))
    (pss_one (ps_ret (pv 1)))))), ?_⟩
  refine ⟨_, rfl, rfl, _, rfl, ?_⟩
  refine ifB (fun c => ?_) (fun c => ?_)
  · have e : z = "" := by injection of_decide_eq_true c
    subst e
    refine ⟨(by show 0 ≤ sizeLine; decide), fun F nF => ?_⟩
    exact qs [] rfl F [] _ (smNew1 nF _) nF upd_same .nil
  have nd : z ≠ "" := fun e => of_decide_eq_false c (by rw [e])
  have el : linesOf z = Txt.split z "\n" := by unfold linesOf; rw [if_neg nd]
  rw [el] at qs qe
  refine ⟨(by show 0 ≤ sizeLine; decide), fun F nF => ⟨_, rfl, ?_⟩⟩
  have s0 := smNew1 nF (.lst [])
  refine ⟨⟨_, rfl⟩, _, _, rfl, rfl, by decide +kernel, by (show _ ≤ 16777216); omega, fun l nl => ?_⟩
  have lc := split_cnt z "\n"
  have Fl : F ≠ l := fun e => by rw [e, upd_same] at nl; cases nl
  let H0 : Hp := upd (fun _ => none) l (.lst ((Txt.split z "\n").map V.str))
  have sH0 : ∀ H' : Hp, H' l = some (.lst ((Txt.split z "\n").map V.str)) → Same H0 H' := fun H' h b u hb => by
    by_cases e : b = l
    · rw [e] at hb ⊢
      rw [show H0 l = _ from upd_same] at hb
      rw [h, hb]
    · rw [show H0 b = none from upd_ne e] at hb
      cases hb
  refine enumA_of (H0 := H0) (.inl (SqL.of upd_same)) (sH0 _ upd_same) fun J wk => ?_
  have s1 := smNew s0 nl (.lst ((Txt.split z "\n").map V.str))
  have lm : ((Txt.split z "\n").map V.str).length = (Txt.split z "\n").length := List.length_map ..
  refine for_it wk (fun i σ H' => Same H H' ∧ H' l = some (.lst ((Txt.split z "\n").map V.str)) ∧ ∃ cs gs v2 v3 v4, σ = [some (.str z), some (.ref F), v2, v3, v4] ∧ H' F = some (.lst cs) ∧ ((Txt.split z "\n").take i).map rdL = gs.map some ∧ ChgsAt K H' cs gs ∧ gs.length = i) ?_ ?_ ?_ ?_
  · exact ⟨s1, upd_same, [], [], _, _, _, rfl, by rw [upd_ne Fl, upd_same], rfl, .nil, rfl⟩
  · exact fun i σ H' _ h => sH0 H' h.2.1
  · rintro i x σ H1 H2 hi ⟨sa, hl, cs, gs, v2, v3, v4, rfl, hF, hg, hc, lg⟩ ⟨t, y, x2, rfl, ht, rfl, hy, hx⟩
    obtain rfl : V.int (i : Nat) = y := Option.some.inj hy
    replace hx : ((Txt.split z "\n").map V.str)[i]? = some x2 := hx
    rw [List.getElem?_map] at hx
    obtain ⟨ln, hln, rfl⟩ := Option.map_eq_some_iff.mp hx
    have e2 := smNew1 ht (.tup [.int (i : Nat), .str ln])
    have wl := (split_part (List.mem_of_getElem? hln)).1
    have lw := (List.getElem?_eq_some_iff.mp hln).1
    refine ⟨t, _, rfl, SqT.of upd_same, rfl, _, _, rfl, _, _, rfl, rfl, ?_⟩
    have hF2 := e2 _ _ hF
    have hl2 := e2 _ _ hl
    have hc2 := hc.keep e2
    have sb := sa.trans e2
    generalize upd H1 t (.tup [.int (i : Nat), .str ln]) = H3 at e2 hF2 hl2 hc2 sb ⊢
    refine ⟨_, rfl, ln, rfl, by omega, fun hn H4 e4 => ?_, fun g hgl a H4 e4 na ca => ?_⟩
    · refine ⟨_, rfl, true, rfl, iteT ?_⟩
      refine ⟨_, rfl, _, _, rfl, rfl, ?_⟩
      exact raise1 fun d H' _ e' hd => qe i (badL_at hg hln hn) d H' (sb.trans (e4.trans e')) hd
    · refine ⟨_, rfl, false, rfl, iteF ?_⟩
      have hF4 := e4 _ _ hF2
      refine ⟨_, rfl, .inl ⟨rfl, _, SqL.of hF4⟩, ?_⟩
      have lcs := hc.len
      refine ⟨_, rfl, F, cs, _, rfl, rfl, hF4, small1000 (by omega), ?_⟩
      have lF : l ≠ F := fun e => Fl e.symm
      refine ⟨smOut (sb.trans e4) nF _, by rw [upd_ne lF]; exact e4 _ _ hl2, cs ++ [.ref a], gs ++ [g], _, _, _, rfl, upd_same, ?_, ?_, ?_⟩
      · rw [List.take_add_one, hln, List.map_append, hg, List.map_append]
        show _ ++ [rdL ln] = _
        rw [hgl]
        rfl
      · exact paired_app ((hc2.keep e4).lst hF4) (.cons ⟨a, rfl, ca.lst hF4⟩ .nil)
      · rw [List.length_append, lg]
        rfl
  · rintro σ H1 ⟨sa, hl, cs, gs, v2, v3, v4, rfl, hF, hg, hc, lg⟩
    rw [lm] at hg lg
    rw [List.take_length] at hg
    exact ⟨_, rfl, qs gs hg F cs H1 sa nF hF hc⟩
end
end RM

set_option Elab.async false
set_option linter.all false
set_option maxRecDepth 100000
set_option maxHeartbeats 2000000
set_option pp.maxSteps 600
set_option pp.deepTerms false
namespace RM
open PySem PySem.Spec PyProof.Rows L2
def goodW (z b : Str) : Bool := match rdW z with
  | none => false
  | some q => decide (b.cps.toList < q.1.cps.toList)
section
variable {P : Program} {w : World} {K : PySem.W.Frag} {mg : Str → Option Value} {base : Heap}
def spGoodW : Sp := fun vs H Q _ => match vs with
  | [x, y] => ∃ z b : Str, x = .str z ∧ y = .str b ∧ z.length ≤ 900 ∧ ∀ H', Same H H' → Q (.bl (goodW z b)) H'
  | _ => False
theorem any_out (z : Str) (p : Nat → Bool) : ((cl z).map fun c => !p c).any id = !(cl z).all p := by
  rw [List.any_map, List.all_eq_not_any_not, Bool.not_not]
  rfl
theorem sc_law_word_good : FnScope ["_law_word", "_law_before", "_law_parts", "_law_digits", "_law_letter", "_law_digit"] ["_law_word", "_law_before"] (defScope s_law_word_good) := ⟨rfl, rfl, rfl, by decide +kernel, rfl, by decide +kernel, by decide +kernel⟩
theorem c_law_word_good (T : Top w K mg) : Cal P w K mg base CX0 1 "_law_word_good" spGoodW := by
  refine cal_0 (f_law_word_good T) (g_law_word_good T) sc_law_word_good (fun _ _ _ _ _ _ us hl => match us, hl with | [_, _], _ => rfl) (fun vs H Q E h => match vs, h with | [_, _], _ => rfl) (fun cdv A outer s H vs Q E hr h => ?_)
  match vs, h with
  | [x, y], h =>
  obtain ⟨z, b, rfl, rfl, hz, q⟩ := h
  refine ⟨_, (pss_cons (ps_set (i := 2) sc_law_word_good.nd rfl (Or.inl rfl) (pe_split (pv 0) pe_str))
    (pss_cons (ps_if (PW.pt (pw_or (pt_cmpR op_ne (pcb (z_len T) call_len_seq boot_len (pa_cons (pv 2) pa_nil)) pe_int (nomark _)) (pw_or1 (pt_not (pt_chain op_le op_le pe_int (pcb (z_len T) call_len_str boot_len (pa_cons (pe_ix ix_list (pv 2) pe_int (fun _ _ => rfl)) pa_nil)) pe_int)))))
      (pss_one (ps_ret pe_bl))
      pss_nil)
    (pss_cons (ps_if (PW.pt (pw_or (pt_val (pcb (z_any T) (cr_any rfl) boot_any (pa_cons (pe_lc (own := [("_law_letter", 4)]) rfl sc_law_word_good.nd (pi_str (pe_ix ix_list (pv 2) pe_int (fun _ _ => rfl))) (blkOk_by (own := [("_law_letter", 4)]) (N := ["_law_word", "_law_before", "_law_parts", "_law_digits", "_law_letter", "_law_digit"]) (sc := defScope s_law_word_good) (by decide +kernel)) (fun _ _ _ _ _ => (pg_name (i := 4) sc_law_word_good.nd rfl (Or.inl rfl) (Or.inr rfl))) (fun _ _ _ _ _ => pts_nil) (fun _ _ _ _ _ => (pe_cmpR op_notIn_sign (pv 4) pe_str rfl))) pa_nil))) (pw_or1 (pt_not (pt_cmpR op_lt_str (pv 1) (pe_ix ix_list (pv 2) pe_int (fun _ _ => rfl)) (nomark _))))))
      (pss_one (ps_ret pe_bl))
      pss_nil)
    (pss_cons (ps_set (i := 3) sc_law_word_good.nd rfl (Or.inl rfl) (pe_ix ix_list (pv 2) pe_int (fun _ _ => rfl)))
    (pss_cons (ps_mid (ps_if (pt_cmpR op_eq (pe_slice sl_str (pv 3) po_none (po_some pe_int)) pe_str (nomark _))
      (pss_one (ps_set (i := 3) sc_law_word_good.nd rfl (Or.inl rfl) (pe_slice sl_str (pv 3) (po_some pe_int) po_none)))
      pss_nil))
    (pss_cons (ps_if (PW.pt (pw_or (pt_not (pt_chain op_le op_le pe_int (pcb (z_len T) call_len_str boot_len (pa_cons (pv 3) pa_nil)) pe_int)) (pw_or1 (pt_val (pcb (z_any T) (cr_any rfl) boot_any (pa_cons (pe_lc (own := [("_law_digit", 5)]) rfl sc_law_word_good.nd (pi_str (pv 3)) (blkOk_by (own := [("_law_digit", 5)]) (N := ["_law_word", "_law_before", "_law_parts", "_law_digits", "_law_letter", "_law_digit"]) (sc := defScope s_law_word_good) (by decide +kernel)) (fun _ _ _ _ _ => (pg_name (i := 5) sc_law_word_good.nd rfl (Or.inl rfl) (Or.inr rfl))) (fun _ _ _ _ _ => pts_nil) (fun _ _ _ _ _ => (pe_cmpR op_notIn_sign (pv 5) pe_str rfl))) pa_nil))))))
      (pss_one (ps_ret pe_bl))
      pss_nil)
    (pss_one (ps_ret (pe_or (pe_cmpR op_ne (pe_ix ix_str (pv 3) pe_int (fun _ _ => rfl)) pe_str (nomark _)) (pe_one (pe_cmpR op_eq (pe_ix ix_list (pv 2) pe_int (fun _ _ => rfl)) pe_str (nomark _)))))))))))), ?_⟩
  refine ⟨_, rfl, ⟨_, rfl⟩, _, _, rfl, rfl, by decide +kernel, by (show _ ≤ 16777216); omega, fun p np => ?_⟩
  have sp := smNew1 np (.lst ((Txt.split z "=").map V.str))
  have hp1 : (upd H p (.lst ((Txt.split z "=").map V.str))) p = some (.lst ((Txt.split z "=").map V.str)) := upd_same
  generalize upd H p (.lst ((Txt.split z "=").map V.str)) = H1 at sp hp1 ⊢
  have nope : rdW z = none → ∀ H', Same H H' → Q (.bl false) H' := fun h H' s' => by
    have := q H' s'
    unfold goodW at this
    rw [h] at this
    exact this
  refine ⟨_, rfl, p, _, rfl, .inl (SqL.of hp1), rfl, _, rfl, ?_⟩
  by_cases l2 : (Txt.split z "=").length = 2
  case neg =>
    rw [decide_eq_false (fun e => by
      injection e with e
      rw [List.length_map] at e
      exact l2 (by omega))]
    exact iteT (iteT (nope (rdW_len l2) _ sp))
  obtain ⟨k, n, e2⟩ : ∃ k n, Txt.split z "=" = [k, n] := by
    match Txt.split z "=", l2 with
    | [k, n], _ => exact ⟨k, n, rfl⟩
  have kl := (split_part (z := z) (y := "=") (w := k) (by rw [e2]; simp)).1
  have nl2 := (split_part (z := z) (y := "=") (w := n) (by rw [e2]; simp)).1
  have hp2 : H1 p = some (.lst [.str k, .str n]) := by rw [hp1, e2]; rfl
  have two := rdW_two e2
  rw [e2]
  refine iteF ?_
  have noW : isWord k = false → ∀ H', Same H H' → Q (.bl false) H' := fun h => nope (by rw [two, h, if_neg Bool.false_ne_true])
  have noN : numOf n = none → ∀ H', Same H H' → Q (.bl false) H' := fun h => nope (by rw [two, h]; split <;> rfl)
  have word_iff : isWord k = (decide (1 ≤ k.length) && decide (k.length ≤ 6) && (cl k).all isLet) := rfl
  refine ⟨_, rfl, p, _, 0, _, rfl, rfl, SqL.of hp2, at0, k, rfl, Nat.le_of_lt (small1000 (by omega)), _, _, rfl, rfl, _, rfl, ?_⟩
  by_cases c1 : 1 ≤ (k.length : Int)
  case neg =>
    rw [decide_eq_false c1]
    exact iteF ⟨_, rfl, iteT (noW (by rw [word_iff, decide_eq_false (by omega)]; rfl) _ sp)⟩
  rw [decide_eq_true c1]
  refine iteT ⟨_, _, rfl, rfl, _, rfl, ?_⟩
  by_cases c2 : (k.length : Int) ≤ 6
  case neg =>
    rw [decide_eq_false c2]
    exact iteT (noW (by rw [word_iff, decide_eq_false (show ¬ k.length ≤ 6 by omega), Bool.and_false]; rfl) _ sp)
  rw [decide_eq_true c2]
  refine iteF ?_
  have word_all : isWord k = (cl k).all isLet := by rw [word_iff, decide_eq_true (show 1 ≤ k.length by omega), decide_eq_true (show k.length ≤ 6 by omega)]; rfl
  -- any letter
  refine ⟨_, rfl, p, _, 0, _, rfl, rfl, SqL.of hp2, at0, k, rfl, fun D nD => ?_⟩
  have lk : (cl k).length = k.length := cl_len k
  refine lc_opt walk_str (fun (v : Bool) y _ => y = .bl v) (fun i => ((cl k)[i]?).map fun c => !isLet c) nD (small1000 (by show k.length ≤ 1000; omega)) (fun _ _ => trivial) (fun _ _ _ _ h _ => h) (fun _ _ _ _ _ h _ => h) ?_ ?_
  · rintro i x H2 H3 N hi e ⟨rfl, c, hc, rfl⟩ hk2 _
    refine ⟨rfl, yesI ⟨_, rfl, c, _, rfl, rfl, hk2 _ _ (!isLet c) ?_ (Same.refl _) rfl⟩⟩
    have hc' : (cl k)[i]? = some c := by simpa using hc
    rw [hc']
    rfl
  intro H2 ys e hD hp'
  have lk2 : (List.range k.cps.size).filterMap (fun i => ((cl k)[i]?).map fun c => !isLet c) = (cl k).map fun c => !isLet c := by
    rw [show k.cps.size = (cl k).length from lk.symm]
    exact map_at _ _
  rw [lk2] at hp'
  have hys : ys = ((cl k).map fun c => !isLet c).map V.bl := paired_eq hp'
  have s2 : Same H H2 := sp.trans e
  refine ⟨D, _, rfl, SqL.of (by rw [hD, hys]), _, rfl, ?_⟩
  rw [any_out, ← word_all]
  cases hw : isWord k with
  | false => exact iteT (iteT (noW hw _ s2))
  | true =>
  refine iteF ?_
  have two' : rdW z = (numOf n).map fun i => (k, i) := by rw [two, if_pos hw]
  have hp3 := e _ _ hp2
  refine ⟨_, rfl, _, rfl, p, _, 0, _, rfl, rfl, SqL.of hp3, at0, b, k, rfl, rfl, _, rfl, ?_⟩
  by_cases lt : b.cps.toList < k.cps.toList
  case neg =>
    rw [decide_eq_false lt]
    refine iteT ?_
    have := q H2 s2
    unfold goodW at this
    rw [two'] at this
    cases hn : numOf n with
    | none => rw [hn] at this; exact this
    | some v =>
      rw [hn] at this
      have t2 : Q (.bl (decide (b.cps.toList < k.cps.toList))) H2 := this
      rw [decide_eq_false lt] at t2
      exact t2
  rw [decide_eq_true lt]
  refine iteF ?_
  have good : ∀ H', Same H H' → Q (.bl (numOf n).isSome) H' := fun H' s' => by
    have := q H' s'
    unfold goodW at this
    rw [two'] at this
    cases hn : numOf n with
    | none => rw [hn] at this; exact this
    | some v =>
      rw [hn] at this
      have t2 : Q (.bl (decide (b.cps.toList < k.cps.toList))) H' := this
      rw [decide_eq_true lt] at t2
      exact t2
  refine ⟨_, rfl, p, _, 1, _, rfl, rfl, SqL.of hp3, at1, ?_⟩
  refine ⟨fun σ H' => H' = H2 ∧ ∃ F v4 v5, σ = [some (.str z), some (.str b), some (.ref p), some (.str F), v4, v5] ∧ cl F = figs n, ?_, ?_⟩
  · refine ⟨_, rfl, _, rfl, n, rfl, Nat.le_of_lt (small1000 (by omega)), rfl, _, rfl, ?_⟩
    refine ifB (fun c => ?_) (fun c => ?_)
    · refine ⟨_, rfl, _, rfl, n, rfl, Nat.le_of_lt (small1000 (by omega)), rfl, _, _, _, rfl, ?_⟩
      have := (minus_iff n).mp (of_decide_eq_true c)
      rw [show (some (1 : Int)) = some ((1 : Nat) : Int) from rfl, cut_suf]
      unfold figs
      rw [if_pos this]
    · refine ⟨rfl, n, _, _, rfl, ?_⟩
      have := fun h => of_decide_eq_false c ((minus_iff n).mpr h)
      unfold figs
      rw [if_neg this]
  rintro σ H' ⟨rfl, F, v4, v5, rfl, hF⟩
  have lF : F.length = (figs n).length := by rw [← cl_len, hF]
  have lz := figs_len n
  have badN : numOf n = none → ∀ H2, Same H H2 → Q (.bl false) H2 := fun h H2 s' => by
    have := good H2 s'
    rw [h] at this
    exact this
  refine ⟨_, rfl, _, rfl, Nat.le_of_lt (small1000 (by omega)), _, _, rfl, rfl, _, rfl, ?_⟩
  by_cases d1 : 1 ≤ (F.length : Int)
  case neg =>
    rw [decide_eq_false d1]
    exact iteF ⟨_, rfl, iteT (iteT (badN (numOf_no (.inl (by omega))) _ s2))⟩
  rw [decide_eq_true d1]
  refine iteT ⟨_, _, rfl, rfl, _, rfl, ?_⟩
  by_cases d2 : (F.length : Int) ≤ 2
  case neg =>
    rw [decide_eq_false d2]
    exact iteT (iteT (badN (numOf_no (.inr (.inl (by omega)))) _ s2))
  rw [decide_eq_true d2]
  refine iteF ?_
  refine ⟨_, rfl, F, rfl, fun D2 nD2 => ?_⟩
  have lf : (cl F).length = F.length := cl_len F
  refine lc_opt walk_str (fun (v : Bool) y _ => y = .bl v) (fun i => ((cl F)[i]?).map fun c => !isDig c) nD2 (small1000 (by show F.length ≤ 1000; omega)) (fun _ _ => trivial) (fun _ _ _ _ h _ => h) (fun _ _ _ _ _ h _ => h) ?_ ?_
  · rintro i x H4 H5 N hi e4 ⟨rfl, c, hc, rfl⟩ hk2 _
    refine ⟨rfl, yesI ⟨_, rfl, c, _, rfl, rfl, hk2 _ _ (!isDig c) ?_ (Same.refl _) rfl⟩⟩
    have hc' : (cl F)[i]? = some c := by simpa using hc
    rw [hc']
    rfl
  intro H4 ys2 e4 hD4 hp4
  have lk3 : (List.range F.cps.size).filterMap (fun i => ((cl F)[i]?).map fun c => !isDig c) = (cl F).map fun c => !isDig c := by
    rw [show F.cps.size = (cl F).length from lf.symm]
    exact map_at _ _
  rw [lk3] at hp4
  have hys2 : ys2 = ((cl F).map fun c => !isDig c).map V.bl := paired_eq hp4
  have s4 := s2.trans e4
  refine ⟨D2, _, rfl, SqL.of (by rw [hD4, hys2]), _, rfl, ?_⟩
  rw [any_out, hF]
  cases hd : (figs n).all isDig with
  | false => exact iteT (badN (numOf_no (.inr (.inr (.inr hd)))) _ s4)
  | true =>
  refine iteF ?_
  have hp5 := e4 _ _ hp3
  obtain ⟨c0, hc0⟩ : ∃ c0, (cl F)[0]? = some c0 := ⟨(cl F)[0]'(by rw [cl_len]; omega), by simp⟩
  have hc1 := hc0
  rw [hF] at hc1
  refine ⟨_, rfl, F, 0, c0, rfl, rfl, Nat.le_of_lt (small1000 (by omega)), atI_nat (j := 0) hc0, rfl, _, rfl, ?_⟩
  have e0 : ("0" : Str) = ⟨#[48]⟩ := by decide +kernel
  have yes : ¬ ((figs n)[0]? = some 48 ∧ cl n ≠ [48]) → ∀ H2, Same H H2 → Q (.bl true) H2 := fun h H2 s' => by
    have := good H2 s'
    obtain ⟨v, _, e2⟩ := numOf_yes (z := n) (by rw [not_or, not_or, not_or]; exact ⟨by omega, by omega, h, by rw [hd]; simp⟩)
    rw [e2] at this
    exact this
  rw [e0, sgn]
  by_cases c3 : c0 = 48
  · subst c3
    refine iteF ?_
    refine ⟨_, rfl, p, _, 1, _, rfl, rfl, SqL.of hp5, at1, rfl, ?_⟩
    by_cases c4 : cl n = [48]
    · rw [← e0, decide_eq_true ((zero_iff n).mpr c4)]
      exact yes (fun h => h.2 c4) _ s4
    · rw [← e0, decide_eq_false fun h => c4 ((zero_iff n).mp h)]
      exact badN (numOf_no (.inr (.inr (.inl ⟨hc1, c4⟩)))) _ s4
  · rw [decide_eq_false c3]
    exact iteT (yes (fun h => c3 (by rw [hc1] at h; exact Option.some.inj h.1)) _ s4)
end
end RM

set_option Elab.async false
set_option linter.all false
set_option maxRecDepth 100000
set_option maxHeartbeats 2000000
set_option pp.maxSteps 600
set_option pp.deepTerms false
namespace RM
open PySem PySem.Spec PyProof.Rows L2
section
variable {P : Program} {w : World} {K : PySem.W.Frag} {mg : Str → Option Value} {base : Heap}
def spGoodL : Sp := fun vs H Q _ => match vs with
  | [x] => ∃ z : Str, x = .str z ∧ z.length ≤ 900 ∧ ∀ H', Same H H' → Q (.bl (rdL z).isSome) H'
  | _ => False
theorem sc_law_line_good : FnScope ["_law_line", "_law_words", "_law_before", "_law_word"] ["_law_line"] (defScope s_law_line_good) := ⟨rfl, rfl, rfl, by decide +kernel, rfl, by decide +kernel, by decide +kernel⟩
theorem c_law_line_good (T : Top w K mg) : Cal P w K mg base CX0 2 "_law_line_good" spGoodL := by
  refine cal_0 (f_law_line_good T) (g_law_line_good T) sc_law_line_good (fun _ _ _ _ _ _ us hl => match us, hl with | [_], _ => rfl) (fun vs H Q E h => match vs, h with | [_], _ => rfl) (fun cdv A outer s H vs Q E hr h => ?_)
  match vs, h with
  | [x], h =>
  obtain ⟨z, rfl, hz, q⟩ := h
  refine ⟨_, (pss_cons (ps_if (pt_cmpR op_eq (pv 0) pe_str (nomark _))
      (pss_one (ps_ret pe_bl))
      pss_nil)
    (pss_cons (ps_set (i := 1) sc_law_line_good.nd rfl (Or.inl rfl) (pe_split (pv 0) pe_str))
    (pss_cons (ps_set (i := 2) sc_law_line_good.nd rfl (Or.inl rfl) pe_str)
    (pss_cons (ps_for PassesOwn.never rfl (pi_seqA (pv 1)) (pg_name (i := 3) sc_law_line_good.nd rfl (Or.inl rfl))
      (pss_cons (ps_if (pt_not (pt_val (pc (c_law_word_good T) hr (pa_cons (pv 3) (pa_cons (pv 2) pa_nil)))))
      (pss_one (ps_ret pe_bl))
      pss_nil)
    (pss_one (ps_set (i := 2) sc_law_line_good.nd rfl (Or.inl rfl) (pe_ix ix_list (pe_split (pv 3) pe_str) pe_int (fun _ _ => rfl))))))
    (pss_one (ps_ret (pe_cmpR op_le (pcb (z_len T) call_len_seq boot_len (pa_cons (pv 1) pa_nil)) pe_int (nomark _)))))))), ?_⟩
  refine ⟨_, rfl, rfl, _, rfl, ?_⟩
  refine ifB (fun c => ?_) (fun c => ?_)
  · have e : z = "-" := by injection of_decide_eq_true c
    subst e
    have := q H (Same.refl _)
    rw [dash_rd] at this
    exact this
  have nd : z ≠ "-" := fun e => of_decide_eq_false c (by rw [e])
  have rd : rdL z = (rdWs (Txt.split z " ") []).bind fun g => if g.length ≤ 4 then some g else none := by unfold rdL; rw [if_neg nd]
  refine ⟨_, rfl, ⟨_, rfl⟩, _, _, rfl, rfl, by decide +kernel, by (show _ ≤ 16777216); omega, fun l nl => ?_⟩
  have lc := split_cnt z " "
  have s1 := smNew1 nl (.lst ((Txt.split z " ").map V.str))
  have hl1 : (upd H l (.lst ((Txt.split z " ").map V.str))) l = some (.lst ((Txt.split z " ").map V.str)) := upd_same
  generalize upd H l (.lst ((Txt.split z " ").map V.str)) = H1 at s1 hl1 ⊢
  refine ⟨_, rfl, ?_⟩
  refine seqA_of (.inl (SqL.of hl1)) (Same.refl _) fun J wk => ?_
  have lm : ((Txt.split z " ").map V.str).length = (Txt.split z " ").length := List.length_map ..
  refine for_it wk (fun i σ H' => Same H1 H' ∧ ∃ g v3, σ = [some (.str z), some (.ref l), some (.str (lastK g)), v3] ∧ rdWs ((Txt.split z " ").take i) [] = some g ∧ g.length = i) ⟨Same.refl _, [], _, rfl, rfl, rfl⟩ (fun _ _ _ _ h => h.1) ?_ ?_
  · rintro i x σ H2 H3 hi ⟨sa, g, v3, rfl, hg, lg⟩ ⟨rfl, hx⟩
    have iw : i < (Txt.split z " ").length := by rw [← lm]; exact hi
    obtain ⟨wd, hw, rfl⟩ : ∃ wd, (Txt.split z " ")[i]? = some wd ∧ x = .str wd := by
      rw [List.getElem?_map] at hx
      obtain ⟨y, hy, e⟩ := Option.map_eq_some_iff.mp hx
      exact ⟨y, hy, e.symm⟩
    have wl := (split_part (List.mem_of_getElem? hw)).1
    refine ⟨_, rfl, _, rfl, wd, lastK g, rfl, rfl, by omega, fun H4 s4 => ?_⟩
    have rg := rdWs_rise hg (show Rise [] from .nil)
    have good_iff : ∀ q, rdW wd = some q → goodW wd (lastK g) = below g q.1 := fun q hq => by
      unfold goodW
      rw [hq, below_last rg (rdW_back hq).2.1]
    have sx : Same H H4 := s1.trans (sa.trans s4)
    refine ⟨_, rfl, ?_⟩
    cases hgd : goodW wd (lastK g) with
    | false =>
      refine iteT ?_
      have := q H4 sx
      rw [rd, rdWs_stop hg hw fun q hq => by rw [← good_iff q hq, hgd]] at this
      exact this
    | true =>
    refine iteF ?_
    obtain ⟨q1, hq⟩ : ∃ q1, rdW wd = some q1 := by
      cases e : rdW wd with
      | none => unfold goodW at hgd; rw [e] at hgd; cases hgd
      | some q1 => exact ⟨q1, rfl⟩
    have hb : below g q1.1 = true := by rw [← good_iff q1 hq, hgd]
    obtain ⟨k, n, e2⟩ : ∃ k n, Txt.split wd "=" = [k, n] ∧ k = q1.1 := by
      have h := hq
      unfold rdW at h
      split at h
      · rename_i k n e
        split at h
        · obtain ⟨i, _, e3⟩ := Option.map_eq_some_iff.mp h
          exact ⟨k, n, e, by rw [← e3]⟩
        · cases h
      · cases h
    obtain ⟨e2, ek⟩ := e2
    refine ⟨_, rfl, ⟨_, rfl⟩, _, _, rfl, rfl, by decide +kernel, by (show _ ≤ 16777216); omega, fun p np => ?_⟩
    rw [e2]
    refine ⟨p, _, 0, _, rfl, rfl, SqL.of upd_same, at0, ?_⟩
    refine ⟨smNew (sa.trans s4) np _, g ++ [q1], some (.str wd), ?_, rdWs_next hg hw hq hb, by rw [List.length_append, lg]; rfl⟩
    rw [lastK_add, ← ek]
    rfl
  rintro σ H2 ⟨sa, g, v3, rfl, hg, lg⟩
  rw [lm] at hg lg
  rw [List.take_length] at hg
  refine ⟨_, rfl, l, _, rfl, .inl (sa.seq (SqL.of hl1)), _, _, rfl, rfl, ?_⟩
  have := q H2 (s1.trans sa)
  rw [rd, hg] at this
  rw [lm]
  by_cases l4 : g.length ≤ 4
  · have t : (((some g).bind fun g => if g.length ≤ 4 then some g else none) : Option WM) = some g := by show (if g.length ≤ 4 then some g else none) = _; rw [if_pos l4]
    rw [t] at this
    show Q (.bl (decide (((Txt.split z " ").length : Int) ≤ 4))) H2
    rw [decide_eq_true (by omega)]
    exact this
  · have t : (((some g).bind fun g => if g.length ≤ 4 then some g else none) : Option WM) = none := by show (if g.length ≤ 4 then some g else none) = _; rw [if_neg l4]
    rw [t] at this
    show Q (.bl (decide (((Txt.split z " ").length : Int) ≤ 4))) H2
    rw [decide_eq_false (by omega)]
    exact this
end
end RM

set_option Elab.async false
set_option linter.all false
set_option maxRecDepth 100000
set_option maxHeartbeats 2000000
namespace RM
open PySem PySem.Spec PyProof.Rows L2
/-! ### the draws: a list of four at d, apart from all else -/
def Hd4 (H : Hp) (d sc : Addr) : Prop := ∃ (p q r : Int), H d = some (.lst [.ref sc, .int p, .int q, .int r]) ∧ 0 ≤ p
def Scr (K : PySem.W.Frag) (H : Hp) (sc : Addr) : Prop := ∃ xs : List Int, SqL K H sc (xs.map V.int)
def DrawAt (K : PySem.W.Frag) (H : Hp) (d sc : Addr) : Prop := Hd4 H d sc ∧ Scr K (del H d) sc
/-- all but d is kept -/
def But (d : Addr) (H H' : Hp) : Prop := Same (del H d) (del H' d)
theorem But.refl (d : Addr) (H : Hp) : But d H H := Same.refl _
theorem But.trans {d : Addr} {H H1 H2 : Hp} (a : But d H H1) (b : But d H1 H2) : But d H H2 := Same.trans a b
theorem del_sm (H : Hp) (d : Addr) : Same (del H d) H := fun b u z => by
  by_cases hb : b = d
  · rw [hb, del_same] at z
    cases z
  · rwa [del_ne hb] at z
theorem but_upd (d : Addr) (H : Hp) (o : HO) : But d H (upd H d o) := fun b u z => by
  by_cases hb : b = d
  · rw [hb, del_same] at z
    cases z
  · rw [del_ne hb] at z ⊢
    rw [upd_ne hb]
    exact z
theorem but_sm {d : Addr} {H H' : Hp} (e : Same H H') : But d H H' := fun b u z => by
  by_cases hb : b = d
  · rw [hb, del_same] at z
    cases z
  · rw [del_ne hb] at z ⊢
    exact e _ _ z
theorem But.get {d b : Addr} {H H' : Hp} {o : HO} (e : But d H H') (hb : b ≠ d) (h : H b = some o) : H' b = some o := by
  have := e b o (by rw [del_ne hb]; exact h)
  rwa [del_ne hb] at this
theorem Scr.keep {K : PySem.W.Frag} {H H' : Hp} {sc : Addr} (e : Same H H') (h : Scr K H sc) : Scr K H' sc := let ⟨xs, h⟩ := h; ⟨xs, e.seq h⟩
theorem Hd4.keep {H H' : Hp} {d sc : Addr} (e : Same H H') (h : Hd4 H d sc) : Hd4 H' d sc := let ⟨p, q, r, h, z⟩ := h; ⟨p, q, r, e _ _ h, z⟩
theorem DrawAt.keep {K : PySem.W.Frag} {H H' : Hp} {d sc : Addr} (e : Same H H') (h : DrawAt K H d sc) : DrawAt K H' d sc := ⟨h.1.keep e, h.2.keep (but_sm e)⟩
theorem DrawAt.set {K : PySem.W.Frag} {H : Hp} {d sc : Addr} {xs : List Int} (h2 : SqL K (del H d) sc (xs.map V.int)) {p : Int} (h3 : 0 ≤ p) (q r : Int) : DrawAt K (upd H d (.lst [.ref sc, .int p, .int q, .int r])) d sc :=
  ⟨⟨p, q, r, upd_same, h3⟩, xs, (but_upd d H _).seq h2⟩
theorem Hd4.ne {H : Hp} {d sc : Addr} (h : Hd4 H d sc) : H d ≠ none := by
  obtain ⟨p, q, r, h, _⟩ := h
  rw [h]
  exact fun z => nomatch z
/-! ### what is new since H0 -/
def nw (H0 H : Hp) : Hp := fun b => match H0 b with
  | none => H b
  | some _ => none
theorem nw_new {H0 H : Hp} {b : Addr} (h : H0 b = none) : nw H0 H b = H b := by
  unfold nw
  rw [h]
theorem nw_some {H0 H : Hp} {b : Addr} {u : HO} (h : nw H0 H b = some u) : H0 b = none ∧ H b = some u := by
  unfold nw at h
  cases e : H0 b with
  | none => rw [e] at h; exact ⟨rfl, h⟩
  | some v => rw [e] at h; cases h
theorem nw_sm (H0 H : Hp) : Same (nw H0 H) H := fun b u z => (nw_some z).2
/-- all of H0 stands in H -/
def Gro (H0 H : Hp) : Prop := ∀ b, H b = none → H0 b = none
theorem Gro.refl (H : Hp) : Gro H H := fun _ h => h
theorem Gro.trans {H0 H1 H2 : Hp} (a : Gro H0 H1) (b : Gro H1 H2) : Gro H0 H2 := fun c h => a c (b c h)
theorem gro_sm {H0 H : Hp} (e : Same H0 H) : Gro H0 H := fun b h => e.free h
theorem gro_upd {H : Hp} {p : Addr} {o : HO} : Gro H (upd H p o) := fun b h => by
  by_cases hb : b = p
  · rw [hb, upd_same] at h
    cases h
  · rwa [upd_ne hb] at h
theorem gro_but {d : Addr} {H0 H : Hp} (e : But d H0 H) (hd : H d ≠ none) : Gro H0 H := fun b h => by
  by_cases hb : b = d
  · rw [hb] at h
    exact absurd h hd
  · cases z : H0 b with
    | none => rfl
    | some u =>
      rw [e.get hb z] at h
      cases h
theorem nw_but {d : Addr} {H0 H H' : Hp} (e : But d H H') (h0 : H0 d ≠ none) : Same (nw H0 H) (nw H0 H') := fun b u z => by
  obtain ⟨z1, z2⟩ := nw_some z
  rw [nw_new z1]
  exact e.get (fun q => h0 (by rw [← q]; exact z1)) z2
theorem nw_keep {H0 H H' : Hp} (e : Same H H') : Same (nw H0 H) (nw H0 H') := fun b u z => by
  obtain ⟨z1, z2⟩ := nw_some z
  rw [nw_new z1]
  exact e _ _ z2
theorem nw_back {H0 H1 H : Hp} (g : Gro H0 H1) : Same (nw H1 H) (nw H0 H) := fun b u z => by
  obtain ⟨z1, z2⟩ := nw_some z
  rw [nw_new (g _ z1)]
  exact z2
/-- what is new since H1 isn't p, that stood in H1 -/
theorem nw_del {H1 H : Hp} {p : Addr} (h : H1 p ≠ none) : Same (nw H1 H) (del (nw H1 H) p) := fun b u z => by
  rw [del_ne fun q => h (by rw [← q]; exact (nw_some z).1)]
  exact z
theorem del_mono {p : Addr} {H H' : Hp} (e : Same H H') : Same (del H p) (del H' p) := but_sm e
section
variable {P : Program} {w : World} {K : PySem.W.Frag} {mg : Str → Option Value} {base : Heap}
def spBegin (K : PySem.W.Frag) : Sp := fun vs H Q _ => match vs with
  | [x] => ∃ (a : Addr) (xs : List Int), x = .ref a ∧ SqL K H a (xs.map V.int) ∧ ∀ d sc H', Same H H' → H d = none → DrawAt K H' d sc → Q (.ref d) H'
  | _ => False
theorem sc_law_begin : FnScope ["_law_script"] ["_law_script"] (defScope s_law_begin) := ⟨rfl, rfl, rfl, by decide +kernel, rfl, by decide +kernel, by decide +kernel⟩
theorem c_law_begin (T : Top w K mg) : Cal P w K mg base CX0 1 "_law_begin" (spBegin K) := by
  refine cal_0 (f_law_begin T) (g_law_begin T) sc_law_begin (fun _ _ _ _ _ _ us hl => match us, hl with | [_], _ => rfl) (fun vs H Q E h => match vs, h with | [_], _ => rfl) (fun cdv A outer s H vs Q E hr h => ?_)
  match vs, h with
  | [x], h =>
  obtain ⟨a, xs, rfl, ha, q⟩ := h
  refine ⟨_, (pss_one (ps_ret (pe_lst (pa_cons (pct (z_list T) call_list_of boot_list (pa_cons (pv 0) pa_nil)) (pa_cons pe_int (pa_cons pe_int (pa_cons pe_int pa_nil))))))), ?_⟩
  refine ⟨_, rfl, a, _, rfl, .inl ha, fun sc hsc => ?_⟩
  refine ⟨(by show 4 ≤ sizeLine; decide), fun d hd => ?_⟩
  have s1 : Same H (upd H sc (.lst (xs.map V.int))) := smNew1 hsc _
  refine q d sc _ (smNew s1 hd _) (s1.free hd) ⟨⟨0, 0, 7, upd_same, Int.le_refl 0⟩, xs, ?_⟩
  refine SqL.of ?_
  have hne : sc ≠ d := fun e => by
    rw [← e, upd_same] at hd
    cases hd
  rw [del_ne hne, upd_ne hne]
  exact upd_same
/-! ### _law_draw -/
def spDraw (K : PySem.W.Frag) : Sp := fun vs H Q _ => match vs with
  | [x, y] => ∃ d sc m, x = .ref d ∧ y = .int m ∧ DrawAt K H d sc ∧ 0 < m ∧ m < 1000000 ∧ ∀ r H', 0 ≤ r → r < m → But d H H' → DrawAt K H' d sc → Q (.int r) H'
  | _ => False
theorem sc_law_draw : FnScope ["_law_draws", "_law_many", "_law_cell", "_law_found"] ["_law_draws", "_law_many"] (defScope s_law_draw) := ⟨rfl, rfl, rfl, by decide +kernel, rfl, by decide +kernel, by decide +kernel⟩
theorem c_law_draw (T : Top w K mg) : Cal P w K mg base CX0 1 "_law_draw" (spDraw K) := by
  refine cal_0 (f_law_draw T) (g_law_draw T) sc_law_draw (fun _ _ _ _ _ _ us hl => match us, hl with | [_, _], _ => rfl) (fun vs H Q E h => match vs, h with | [_, _], _ => rfl) (fun cdv A outer s H vs Q E hr h => ?_)
  match vs, h with
  | [x, y], h =>
  obtain ⟨d, sc, m, rfl, rfl, ⟨⟨p, q0, r, hd, hp⟩, xs, hs⟩, m0, m1, q⟩ := h
  refine ⟨_, (pss_cons (ps_if (pt_cmpR op_eq (pe_ix ix_list (pv 0) pe_int (fun _ _ => rfl)) pe_int (nomark _))
      (pss_one (ps_if (pt_cmpR op_lt (pe_ix ix_list (pv 0) pe_int (fun _ _ => rfl)) (pcb (z_len T) call_len_seq boot_len (pa_cons (pe_ix ix_list (pv 0) pe_int (fun _ _ => rfl)) pa_nil)) (nomark _))
      (pss_cons (ps_set (i := 2) sc_law_draw.nd rfl (Or.inl rfl) (pe_ix ix_list (pe_ix ix_list (pv 0) pe_int (fun _ _ => rfl)) (pe_ix ix_list (pv 0) pe_int (fun _ _ => rfl)) (fun _ _ => rfl)))
    (pss_cons (ps_asg (pe_op op_add (pe_ix ix_list (pv 0) pe_int (fun _ _ => rfl)) pe_int) (pg_sub (pv 0) pe_int set_list))
    (pss_one (ps_if (pt_cmpR op_ge (pv 2) (pe_op op_pow pe_int pe_int) (nomark _))
      (pss_one (ps_asg (pv 2) (pg_sub (pv 0) pe_int set_list)))
      (pss_one (ps_asg (pe_op op_mod (pct (z_int T) call_int1 boot_int (pa_cons (pe_op op_add (pe_op op_add (pe_op op_mul (pe_ix ix_list (pv 0) pe_int (fun _ _ => rfl)) pe_int) (pe_op op_mul (pv 2) pe_int)) pe_int) pa_nil)) pe_int) (pg_sub (pv 0) pe_int set_list)))))))
      (pss_one (ps_asg (pe_op op_mod (pct (z_int T) call_int1 boot_int (pa_cons (pe_op op_add (pe_op op_mul (pe_ix ix_list (pv 0) pe_int (fun _ _ => rfl)) pe_int) pe_int) pa_nil)) pe_int) (pg_sub (pv 0) pe_int set_list)))))
      pss_nil)
    (pss_cons (ps_if (pt_cmpR op_gt (pe_ix ix_list (pv 0) pe_int (fun _ _ => rfl)) pe_int (nomark _))
      (pss_cons (ps_set (i := 3) sc_law_draw.nd rfl (Or.inl rfl) (pe_op op_mod (pct (z_int T) call_int1 boot_int (pa_cons (pe_ix ix_list (pv 0) pe_int (fun _ _ => rfl)) pa_nil)) (pv 1)))
    (pss_cons (ps_asg (pe_op op_fdiv (pe_ix ix_list (pv 0) pe_int (fun _ _ => rfl)) (pv 1)) (pg_sub (pv 0) pe_int set_list))
    (pss_one (ps_ret (pv 3)))))
      pss_nil)
    (pss_one (ps_ret (pe_op op_mod (pe_op op_mod (pct (z_int T) call_int1 boot_int (pa_cons (pe_op op_mul (pe_ix ix_list (pv 0) pe_int (fun _ _ => rfl)) pe_int) pa_nil)) pe_int) (pv 1)))))), ?_⟩
  have hs0 : SqL K H sc (xs.map V.int) := (del_sm H d).seq hs
  refine ⟨_, rfl, _, _, _, _, rfl, rfl, SqL.of hd, at2, rfl, _, rfl, ?_⟩
  refine ifB (fun hq => ?_) (fun hq => ?_)
  · refine ⟨_, rfl, _, _, _, _, rfl, rfl, SqL.of hd, at1, ?_⟩
    refine ⟨_, rfl, _, _, _, _, rfl, rfl, SqL.of hd, at0, _, _, rfl, .inl hs0, ?_⟩
    refine ⟨_, _, rfl, rfl, _, rfl, ?_⟩
    refine ifB (fun hl => ?_) (fun hl => ?_)
    · have hl1 : p < ((xs.map V.int).length : Nat) := of_decide_eq_true hl
      rw [List.length_map] at hl1
      obtain ⟨k, rfl⟩ : ∃ k : Nat, p = k := ⟨p.toNat, by omega⟩
      have hk : k < xs.length := by omega
      -- the cell
      refine ⟨_, rfl, _, _, _, _, rfl, rfl, SqL.of hd, at0, ?_⟩
      refine ⟨_, rfl, _, _, _, _, rfl, rfl, SqL.of hd, at1, ?_⟩
      refine ⟨_, _, _, V.int xs[k], rfl, rfl, hs0, atI_nat (by rw [List.getElem?_map, List.getElem?_eq_getElem hk]; rfl), ?_⟩
      -- the place
      refine ⟨_, rfl, _, _, _, _, rfl, rfl, SqL.of hd, at1, ?_⟩
      refine ⟨_, _, rfl, rfl, ?_⟩
      refine ⟨_, rfl, d, _, _, 1, rfl, rfl, hd, rfl, ?_⟩
      obtain ⟨H1, e1, hd1, hs1, bt1⟩ : ∃ H1, H1 = upd H d (.lst [.ref sc, .int ((k : Int) + 1), .int q0, .int r]) ∧ H1 d = some (.lst [.ref sc, .int ((k : Int) + 1), .int q0, .int r]) ∧ SqL K (del H1 d) sc (xs.map V.int) ∧ But d H H1 := ⟨_, rfl, upd_same, (but_upd d H _).seq hs, but_upd d H _⟩
      have e1' : upd H d (.lst ([V.ref sc, .int k, .int q0, .int r].set 1 (.int ((k : Int) + 1)))) = H1 := e1.symm
      rw [e1']
      have hp2 : (0 : Int) ≤ (k : Int) + 1 := by omega
      refine ⟨_, rfl, _, _, rfl, rfl, ⟨by decide, by decide, by decide⟩, ?_⟩
      refine ⟨_, _, rfl, rfl, _, rfl, ?_⟩
      refine ifB (fun hc => ?_) (fun hc => ?_)
      · refine ⟨_, rfl, _, rfl, d, _, _, 2, rfl, rfl, hd1, rfl, ?_⟩
        obtain ⟨H2, e2, hd2, hs2, bt⟩ : ∃ H2, H2 = upd H1 d (.lst [.ref sc, .int ((k : Int) + 1), .int xs[k], .int r]) ∧ H2 d = some (.lst [.ref sc, .int ((k : Int) + 1), .int xs[k], .int r]) ∧ SqL K (del H2 d) sc (xs.map V.int) ∧ But d H H2 := ⟨_, rfl, upd_same, (but_upd d H1 _).seq hs1, bt1.trans (but_upd d H1 _)⟩
        have e2' : upd H1 d (.lst ([V.ref sc, .int ((k : Int) + 1), .int q0, .int r].set 2 (.int xs[k]))) = H2 := e2.symm
        rw [e2']
        refine ⟨_, rfl, _, _, _, _, rfl, rfl, SqL.of hd2, at2, _, _, rfl, rfl, _, rfl, ?_⟩
        refine ifB (fun hq2 => ?_) (fun hq2 => ?_)
        · refine ⟨_, rfl, _, _, _, _, rfl, rfl, SqL.of hd2, at2, .inl ⟨_, rfl, ?_⟩⟩
          refine ⟨_, rfl, _, _, rfl, rfl, m0, ?_⟩
          refine ⟨_, rfl, _, _, _, _, rfl, rfl, SqL.of hd2, at2, ?_⟩
          refine ⟨_, rfl, _, _, rfl, rfl, ⟨m0, by omega⟩, ?_⟩
          refine ⟨_, rfl, d, _, _, 2, rfl, rfl, hd2, rfl, ?_⟩
          refine ⟨_, rfl, ?_⟩
          exact q _ _ (Int.emod_nonneg _ (by omega)) (Int.emod_lt_of_pos _ m0) (bt.trans (but_upd d _ _)) (DrawAt.set hs2 hp2 _ _)
        · refine ⟨_, rfl, _, _, _, _, rfl, rfl, SqL.of hd2, at3, ?_⟩
          refine ⟨_, _, rfl, rfl, .inr (by decide), .inl ⟨_, rfl, ?_⟩⟩
          refine ⟨_, _, rfl, rfl, (by show (0 : Int) < _; decide), ?_⟩
          refine ⟨_, rfl, _, _, rfl, rfl, m0, ?_⟩
          exact q _ _ (Int.emod_nonneg _ (by omega)) (Int.emod_lt_of_pos _ m0) bt ⟨⟨_, _, _, hd2, hp2⟩, _, hs2⟩
      · refine ⟨_, rfl, _, _, _, _, rfl, rfl, SqL.of hd1, at3, ?_⟩
        refine ⟨_, _, rfl, rfl, .inr (by decide), ?_⟩
        refine ⟨_, rfl, _, _, rfl, rfl, .inr (by decide), ?_⟩
        refine ⟨_, _, rfl, rfl, _, _, rfl, rfl, .inl ⟨_, rfl, ?_⟩⟩
        refine ⟨_, _, rfl, rfl, (by show (0 : Int) < _; decide), ?_⟩
        refine ⟨_, rfl, d, _, _, 3, rfl, rfl, hd1, rfl, ?_⟩
        obtain ⟨H2, e2, hd2, hs2, bt⟩ : ∃ H2, H2 = upd H1 d (.lst [.ref sc, .int ((k : Int) + 1), .int q0, .int ((r * 48271 + xs[k] * 69621 + 11) % 2147483647)]) ∧ H2 d = some (.lst [.ref sc, .int ((k : Int) + 1), .int q0, .int ((r * 48271 + xs[k] * 69621 + 11) % 2147483647)]) ∧ SqL K (del H2 d) sc (xs.map V.int) ∧ But d H H2 := ⟨_, rfl, upd_same, (but_upd d H1 _).seq hs1, bt1.trans (but_upd d H1 _)⟩
        have e2' : upd H1 d (.lst ([V.ref sc, .int ((k : Int) + 1), .int q0, .int r].set 3 (.int ((r * 48271 + xs[k] * 69621 + 11) % 2147483647)))) = H2 := e2.symm
        rw [e2']
        refine ⟨_, rfl, _, _, _, _, rfl, rfl, SqL.of hd2, at2, _, _, rfl, rfl, _, rfl, ?_⟩
        refine ifB (fun hq2 => ?_) (fun hq2 => ?_)
        · refine ⟨_, rfl, _, _, _, _, rfl, rfl, SqL.of hd2, at2, .inl ⟨_, rfl, ?_⟩⟩
          refine ⟨_, rfl, _, _, rfl, rfl, m0, ?_⟩
          refine ⟨_, rfl, _, _, _, _, rfl, rfl, SqL.of hd2, at2, ?_⟩
          refine ⟨_, rfl, _, _, rfl, rfl, ⟨m0, by omega⟩, ?_⟩
          refine ⟨_, rfl, d, _, _, 2, rfl, rfl, hd2, rfl, ?_⟩
          refine ⟨_, rfl, ?_⟩
          exact q _ _ (Int.emod_nonneg _ (by omega)) (Int.emod_lt_of_pos _ m0) (bt.trans (but_upd d _ _)) (DrawAt.set hs2 hp2 _ _)
        · refine ⟨_, rfl, _, _, _, _, rfl, rfl, SqL.of hd2, at3, ?_⟩
          refine ⟨_, _, rfl, rfl, .inr (by decide), .inl ⟨_, rfl, ?_⟩⟩
          refine ⟨_, _, rfl, rfl, (by show (0 : Int) < _; decide), ?_⟩
          refine ⟨_, rfl, _, _, rfl, rfl, m0, ?_⟩
          exact q _ _ (Int.emod_nonneg _ (by omega)) (Int.emod_lt_of_pos _ m0) bt ⟨⟨_, _, _, hd2, hp2⟩, _, hs2⟩
    · refine ⟨_, rfl, _, _, _, _, rfl, rfl, SqL.of hd, at3, ?_⟩
      refine ⟨_, _, rfl, rfl, .inr (by decide), ?_⟩
      refine ⟨_, _, rfl, rfl, .inl ⟨_, rfl, ?_⟩⟩
      refine ⟨_, _, rfl, rfl, (by show (0 : Int) < _; decide), ?_⟩
      refine ⟨_, rfl, d, _, _, 3, rfl, rfl, hd, rfl, ?_⟩
      have hp2 := hp
      obtain ⟨H2, e2, hd2, hs2, bt⟩ : ∃ H2, H2 = upd H d (.lst [.ref sc, .int p, .int q0, .int ((r * 48271 + 7) % 2147483647)]) ∧ H2 d = some (.lst [.ref sc, .int p, .int q0, .int ((r * 48271 + 7) % 2147483647)]) ∧ SqL K (del H2 d) sc (xs.map V.int) ∧ But d H H2 := ⟨_, rfl, upd_same, (but_upd d H _).seq hs, but_upd d H _⟩
      have e2' : upd H d (.lst ([V.ref sc, .int p, .int q0, .int r].set 3 (.int ((r * 48271 + 7) % 2147483647)))) = H2 := e2.symm
      rw [e2']
      refine ⟨_, rfl, _, _, _, _, rfl, rfl, SqL.of hd2, at2, _, _, rfl, rfl, _, rfl, ?_⟩
      refine ifB (fun hq2 => ?_) (fun hq2 => ?_)
      · refine ⟨_, rfl, _, _, _, _, rfl, rfl, SqL.of hd2, at2, .inl ⟨_, rfl, ?_⟩⟩
        refine ⟨_, rfl, _, _, rfl, rfl, m0, ?_⟩
        refine ⟨_, rfl, _, _, _, _, rfl, rfl, SqL.of hd2, at2, ?_⟩
        refine ⟨_, rfl, _, _, rfl, rfl, ⟨m0, by omega⟩, ?_⟩
        refine ⟨_, rfl, d, _, _, 2, rfl, rfl, hd2, rfl, ?_⟩
        refine ⟨_, rfl, ?_⟩
        exact q _ _ (Int.emod_nonneg _ (by omega)) (Int.emod_lt_of_pos _ m0) (bt.trans (but_upd d _ _)) (DrawAt.set hs2 hp2 _ _)
      · refine ⟨_, rfl, _, _, _, _, rfl, rfl, SqL.of hd2, at3, ?_⟩
        refine ⟨_, _, rfl, rfl, .inr (by decide), .inl ⟨_, rfl, ?_⟩⟩
        refine ⟨_, _, rfl, rfl, (by show (0 : Int) < _; decide), ?_⟩
        refine ⟨_, rfl, _, _, rfl, rfl, m0, ?_⟩
        exact q _ _ (Int.emod_nonneg _ (by omega)) (Int.emod_lt_of_pos _ m0) bt ⟨⟨_, _, _, hd2, hp2⟩, _, hs2⟩
  · have hd2 := hd
    have hs2 := hs
    have hp2 := hp
    have bt := But.refl d H
    refine ⟨_, rfl, _, _, _, _, rfl, rfl, SqL.of hd2, at2, _, _, rfl, rfl, _, rfl, ?_⟩
    refine ifB (fun hq2 => ?_) (fun hq2 => ?_)
    · refine ⟨_, rfl, _, _, _, _, rfl, rfl, SqL.of hd2, at2, .inl ⟨_, rfl, ?_⟩⟩
      refine ⟨_, rfl, _, _, rfl, rfl, m0, ?_⟩
      refine ⟨_, rfl, _, _, _, _, rfl, rfl, SqL.of hd2, at2, ?_⟩
      refine ⟨_, rfl, _, _, rfl, rfl, ⟨m0, by omega⟩, ?_⟩
      refine ⟨_, rfl, d, _, _, 2, rfl, rfl, hd2, rfl, ?_⟩
      refine ⟨_, rfl, ?_⟩
      exact q _ _ (Int.emod_nonneg _ (by omega)) (Int.emod_lt_of_pos _ m0) (bt.trans (but_upd d _ _)) (DrawAt.set hs2 hp2 _ _)
    · refine ⟨_, rfl, _, _, _, _, rfl, rfl, SqL.of hd2, at3, ?_⟩
      refine ⟨_, _, rfl, rfl, .inr (by decide), .inl ⟨_, rfl, ?_⟩⟩
      refine ⟨_, _, rfl, rfl, (by show (0 : Int) < _; decide), ?_⟩
      refine ⟨_, rfl, _, _, rfl, rfl, m0, ?_⟩
      exact q _ _ (Int.emod_nonneg _ (by omega)) (Int.emod_lt_of_pos _ m0) bt ⟨⟨_, _, _, hd2, hp2⟩, _, hs2⟩
end
end RM

set_option Elab.async false
set_option linter.all false
set_option maxRecDepth 100000
set_option maxHeartbeats 4000000
/-! some lists are changed, all else is kept -/
namespace RM
open PySem PySem.Spec PyProof.Rows L2
def isL : HO → Bool
  | .lst _ => true
  | _ => false
structure Ls (S : List Addr) (H H' : Hp) : Prop where
  nl : ∀ b u, isL u = false → H b = some u → H' b = some u
  ls : ∀ b xs, b ∉ S → H b = some (.lst xs) → H' b = some (.lst xs)
def dlS (H : Hp) (S : List Addr) : Hp := fun b => if b ∈ S then none else H b
section
variable {K : PySem.W.Frag} {S : List Addr} {H H' H2 : Hp} {d sc : Addr}
theorem Ls.refl : Ls S H H := ⟨fun _ _ _ h => h, fun _ _ _ h => h⟩
theorem Ls.trans (a : Ls S H H') (b : Ls S H' H2) : Ls S H H2 := ⟨fun x u n h => b.nl x u n (a.nl x u n h), fun x xs n h => b.ls x xs n (a.ls x xs n h)⟩
theorem Ls.sm (e : Same H H') : Ls S H H' := ⟨fun x u _ h => e _ _ h, fun x xs _ h => e _ _ h⟩
theorem Ls.but (b : But d H H') (hd : Hd4 H d sc) (hS : d ∈ S) : Ls S H H' := by
  obtain ⟨i, j, k, h, _⟩ := hd
  refine ⟨fun x u n hx => b.get (fun z => ?_) hx, fun x xs n hx => b.get (fun z => n (z ▸ hS)) hx⟩
  rw [z, h] at hx
  injection hx with hx
  rw [← hx] at n
  cases n
theorem Ls.upd {p : Addr} {xs : List V} {o : HO} (hp : H p = some (.lst xs)) (hS : p ∈ S) : Ls S H (L2.upd H p o) := by
  refine ⟨fun x u n hx => ?_, fun x ys n hx => ?_⟩
  · rw [upd_ne fun z => ?_]
    · exact hx
    · rw [z, hp] at hx
      injection hx with hx
      rw [← hx] at n
      cases n
  · rw [upd_ne fun z : x = p => n (by rw [z]; exact hS)]
    exact hx
theorem Ls.map {C : Addr} {f : Str} {a : Addr} {m : WM} (e : Ls S H H') (h : MapAt H C f a m) : MapAt H' C f a m := let ⟨dx, p, h1, h2, h3⟩ := h; ⟨dx, p, e.nl _ _ rfl h1, e.nl _ _ rfl h2, h3⟩
theorem Ls.chg {a : Addr} {m : WM} (e : Ls S H H') (h : ChgAt K H a m) : ChgAt K H' a m := ⟨e.map h.1, h.2⟩
theorem dlS_sm (H : Hp) (S : List Addr) : Same (dlS H S) H := fun b u h => by
  unfold dlS at h
  split at h
  · cases h
  · exact h
/-- the draws, apart from lists that change -/
structure DrawS (K : PySem.W.Frag) (H : Hp) (d sc : Addr) (S : List Addr) : Prop where
  hd : Hd4 H d sc
  sc : Scr K (dlS (del H d) S) sc
  ne : ∀ p ∈ S, p ≠ d
theorem DrawAt.none (h : DrawAt K H d sc) : DrawS K H d sc [] := ⟨h.1, h.2.keep fun b u hb => by unfold dlS; rw [if_neg (by simp)]; exact hb, fun p hp => by simp at hp⟩
theorem DrawS.one (h : DrawS K H d sc S) : DrawAt K H d sc := ⟨h.hd, h.sc.keep (dlS_sm _ _)⟩
theorem DrawS.but (h : DrawS K H d sc S) (b : But d H H') (dr : DrawAt K H' d sc) : DrawS K H' d sc S := ⟨dr.1, h.sc.keep fun c u hc => by
  unfold dlS at hc ⊢
  by_cases z : c ∈ S
  · rw [if_pos z] at hc; cases hc
  · rw [if_neg z] at hc ⊢
    exact b _ _ hc, h.ne⟩
theorem DrawS.keep (h : DrawS K H d sc S) (e : Same H H') : DrawS K H' d sc S := h.but (but_sm e) (h.one.keep e)
theorem DrawS.upd {p : Addr} (h : DrawS K H d sc S) (o : HO) (hp : p ∈ S) : DrawS K (L2.upd H p o) d sc S := by
  obtain ⟨⟨i, j, k, h1, h2⟩, h3, ne⟩ := h
  refine ⟨⟨i, j, k, by rw [upd_ne (Ne.symm (ne p hp))]; exact h1, h2⟩, h3.keep fun c u hc => ?_, ne⟩
  unfold dlS at hc ⊢
  by_cases z : c ∈ S
  · rw [if_pos z] at hc; cases hc
  · rw [if_neg z] at hc ⊢
    by_cases e2 : c = d
    · rw [e2, del_same] at hc; cases hc
    · rw [del_ne e2] at hc ⊢
      rw [upd_ne fun q : c = p => z (by rw [q]; exact hp)]
      exact hc
theorem DrawS.new {p : Addr} (h : DrawS K H d sc S) (hp : H p = none) (o : HO) : DrawS K (L2.upd H p o) d sc (p :: S) := by
  have nd : p ≠ d := fun z => h.hd.ne (by rw [← z]; exact hp)
  refine ⟨h.hd.keep (smNew1 hp _), h.sc.keep fun c u hc => ?_, fun q hq => ?_⟩
  · unfold dlS at hc ⊢
    by_cases z : c ∈ S
    · rw [if_pos z] at hc; cases hc
    · rw [if_neg z] at hc
      by_cases e2 : c = d
      · rw [e2, del_same] at hc; cases hc
      · rw [del_ne e2] at hc
        have cp : c ≠ p := ne_of_none hc hp
        rw [if_neg (by simp [cp, z]), del_ne e2, upd_ne cp]
        exact hc
  · rcases List.mem_cons.mp hq with rfl | hq
    · exact nd
    · exact h.ne q hq
end
end RM

set_option Elab.async false
set_option linter.all false
set_option maxRecDepth 100000
set_option maxHeartbeats 2000000
set_option pp.maxSteps 600
set_option pp.deepTerms false
namespace RM
open PySem PySem.Spec PyProof.Rows L2
/-! ### words of a line: sizes, no line feed -/
theorem joinL_len_eq : ∀ (a : List Nat) (r : List (List Nat)), (TL.joinL [32] (a :: r)).length + 1 = ((a :: r).map List.length).sum + (a :: r).length
  | a, [] => by show a.length + 1 = _; simp
  | a, b :: r => by
    have ih := joinL_len_eq b r
    show (a ++ ([32] ++ TL.joinL [32] (b :: r))).length + 1 = _
    rw [List.length_append, List.length_append, List.map_cons, List.sum_cons, List.length_cons (as := b :: r)]
    show a.length + (1 + _) + 1 = _
    omega
theorem joinL_mem {c : Nat} : ∀ ps : List (List Nat), c ∈ TL.joinL [32] ps → c = 32 ∨ ∃ p ∈ ps, c ∈ p
  | [], h => by simp [TL.joinL] at h
  | [a], h => .inr ⟨a, List.mem_cons_self, h⟩
  | a :: b :: r, h => by
    have h : c ∈ a ++ ([32] ++ TL.joinL [32] (b :: r)) := h
    rcases List.mem_append.mp h with h | h
    · exact .inr ⟨a, List.mem_cons_self, h⟩
    · rcases List.mem_append.mp h with h | h
      · exact .inl (List.mem_singleton.mp h)
      · rcases joinL_mem (b :: r) h with h | ⟨p, hp, h⟩
        · exact .inl h
        · exact .inr ⟨p, List.mem_cons_of_mem _ hp, h⟩
def lensum (ws : List Str) : Nat := (ws.map (·.length)).sum
def okWs (b : Nat) (ws : List Str) : Prop := (∀ w ∈ ws, 10 ∉ cl w) ∧ lensum ws + ws.length ≤ b
theorem cl_join (ws : List Str) : cl (Txt.join " " ws) = TL.joinL [32] (ws.map TL.tl) := by
  show TL.tl _ = _
  rw [TL.join_eq, TL.tl_join, blank_one']
theorem okWs_join {b : Nat} {ws : List Str} (h : okWs b ws) : 10 ∉ cl (Txt.join " " ws) ∧ (Txt.join " " ws).length ≤ b := by
  refine ⟨fun z => ?_, ?_⟩
  · rw [cl_join] at z
    rcases joinL_mem _ z with e | ⟨p, hp, hc⟩
    · exact absurd e (by decide)
    · obtain ⟨w, hw, rfl⟩ := List.mem_map.mp hp
      exact h.1 w hw hc
  · have := join_len ws
    have h2 := h.2
    unfold lensum at h2
    omega
theorem lensum_tl (ws : List Str) : ((ws.map TL.tl).map List.length).sum = lensum ws := by
  rw [List.map_map]
  unfold lensum
  exact congrArg List.sum (List.map_congr_left fun z _ => cl_len z)
theorem okWs_split {z : Str} (h : 10 ∉ cl z) : okWs (z.length + 1) (Txt.split z " ") := by
  refine ⟨fun w hw hc => h ((split_part hw).2 10 hc), ?_⟩
  have j : cl z = TL.joinL [32] ((Txt.split z " ").map TL.tl) := by
    rw [← blank_one', ← TL.tl_join, PySem.StrLaws.join_split]
  have ne := split_ne z
  have l := lensum_tl (Txt.split z " ")
  have len : ((Txt.split z " ").map TL.tl).length = (Txt.split z " ").length := List.length_map ..
  cases e : (Txt.split z " ").map TL.tl with
  | nil => exact absurd (List.map_eq_nil_iff.mp e) ne
  | cons a r =>
    have k := joinL_len_eq a r
    rw [← e, ← j, cl_len, l, len] at k
    omega
theorem lensum_set : ∀ (ws : List Str) (i : Nat) (w : Str), lensum (ws.set i w) ≤ lensum ws + w.length
  | [], i, w => by simp [lensum]
  | a :: r, 0, w => by show (w.length + (r.map _).sum) ≤ (a.length + (r.map _).sum) + w.length; omega
  | a :: r, i + 1, w => by
    have := lensum_set r i w
    show a.length + lensum (r.set i w) ≤ (a.length + lensum r) + w.length
    omega
theorem lensum_erase : ∀ (ws : List Str) (i : Nat), lensum (ws.eraseIdx i) ≤ lensum ws
  | [], i => by simp [lensum]
  | a :: r, 0 => by show (r.map _).sum ≤ a.length + (r.map _).sum; omega
  | a :: r, i + 1 => by
    have := lensum_erase r i
    show a.length + lensum (r.eraseIdx i) ≤ a.length + lensum r
    omega
theorem lensum_app (a b : List Str) : lensum (a ++ b) = lensum a + lensum b := by unfold lensum; rw [List.map_append, List.sum_append]
theorem okWs_set {b : Nat} {ws : List Str} (h : okWs b ws) (i : Nat) {w : Str} (hw : 10 ∉ cl w) : okWs (b + w.length) (ws.set i w) := by
  refine ⟨fun v hv => ?_, ?_⟩
  · rcases List.mem_or_eq_of_mem_set hv with h2 | rfl
    · exact h.1 v h2
    · exact hw
  · have := lensum_set ws i w
    have h2 := h.2
    rw [List.length_set]
    omega
theorem okWs_erase {b : Nat} {ws : List Str} (h : okWs b ws) (i : Nat) : okWs b (ws.eraseIdx i) := by
  refine ⟨fun v hv => h.1 v (List.mem_of_mem_eraseIdx hv), ?_⟩
  have := lensum_erase ws i
  have h2 := h.2
  have := List.length_eraseIdx_le (l := ws) (i := i)
  omega
theorem okWs_ins {b : Nat} {ws : List Str} (h : okWs b ws) (i : Nat) {w : Str} (hw : 10 ∉ cl w) : okWs (b + w.length + 1) (ws.take i ++ [w] ++ ws.drop i) := by
  refine ⟨fun v hv => ?_, ?_⟩
  · rcases List.mem_append.mp hv with hv | hv
    · rcases List.mem_append.mp hv with hv | hv
      · exact h.1 v (List.mem_of_mem_take hv)
      · rw [List.mem_singleton] at hv; subst hv; exact hw
    · exact h.1 v (List.mem_of_mem_drop hv)
  · have e : lensum (ws.take i) + lensum (ws.drop i) = lensum ws := by rw [← lensum_app, List.take_append_drop]
    have e2 : (ws.take i).length + (ws.drop i).length = ws.length := by rw [← List.length_append, List.take_append_drop]
    have h2 := h.2
    rw [lensum_app, lensum_app, List.length_append, List.length_append]
    have : lensum [w] = w.length := by simp [lensum]
    show _ + ((ws.take i).length + 1 + _) ≤ _
    omega
theorem okWs_app {b : Nat} {ws : List Str} (h : okWs b ws) {w : Str} (hw : 10 ∉ cl w) : okWs (b + w.length + 1) (ws ++ [w]) := by
  refine ⟨fun v hv => ?_, ?_⟩
  · rcases List.mem_append.mp hv with hv | hv
    · exact h.1 v hv
    · rw [List.mem_singleton] at hv; subst hv; exact hw
  · have h2 := h.2
    rw [lensum_app, List.length_append]
    have : lensum [w] = w.length := by simp [lensum]
    show _ + (ws.length + 1) ≤ _
    omega
theorem map_erase {α β : Type} (f : α → β) : ∀ (l : List α) (i : Nat), (l.map f).eraseIdx i = (l.eraseIdx i).map f
  | [], i => by simp
  | a :: r, 0 => rfl
  | a :: r, i + 1 => by
    show f a :: (r.map f).eraseIdx i = f a :: (r.eraseIdx i).map f
    rw [map_erase f r i]
theorem ixN_n {n j : Nat} (hj : j < n) : ixN n (j : Int) = some j := by unfold ixN; rw [if_pos (by omega), if_pos (by omega), Int.toNat_natCast]
def oddL : List Str := ["", "-", "a=1", "zz=-99", "a=", "=1", "b=07", "b=-0", "b=100", "A=1", "a=1=2", "b= 1"]
theorem odd_ok : ∀ w ∈ oddL, 10 ∉ cl w ∧ w.length ≤ 6 := by decide +kernel
section
variable {P : Program} {w : World} {K : PySem.W.Frag} {mg : Str → Option Value} {base : Heap}
theorem but_out {H H' : Hp} {d p : Addr} (e : But d H H') (h : H p = none) (o : HO) : But d H (upd H' p o) := fun b u hb => by
  have h1 := e b u hb
  have nd : b ≠ d := fun z => by rw [z, del_same] at hb; cases hb
  rw [del_ne nd] at hb h1 ⊢
  rw [upd_ne (ne_of_none hb h)]
  exact h1
def spSpoil (K : PySem.W.Frag) : Sp := fun vs H Q _ => match vs with
  | [x, y] => ∃ d sc z, x = .ref d ∧ y = .str z ∧ DrawAt K H d sc ∧ 10 ∉ cl z ∧ z.length ≤ 400 ∧ ∀ z2 H', 10 ∉ cl z2 → z2.length ≤ 2 * z.length + 10 → But d H H' → DrawAt K H' d sc → Q (.str z2) H'
  | _ => False
theorem sc_law_spoiled : FnScope ["_law_draws", "_law_line", "_law_words", "_law_at", "_law_odd", "_law_way"] ["_law_draws", "_law_line"] (defScope s_law_spoiled) := ⟨rfl, rfl, rfl, by decide +kernel, rfl, by decide +kernel, by decide +kernel⟩
theorem c_law_spoiled (T : Top w K mg) : Cal P w K mg base CX0 2 "_law_spoiled" (spSpoil K) := by
  refine cal_0 (f_law_spoiled T) (g_law_spoiled T) sc_law_spoiled (fun _ _ _ _ _ _ us hl => match us, hl with | [_, _], _ => rfl) (fun vs H Q E h => match vs, h with | [_, _], _ => rfl) (fun cdv A outer s H vs Q E hr h => ?_)
  match vs, h with
  | [x, y], h =>
  obtain ⟨d, sc, z, rfl, rfl, dr, nz, hz, q⟩ := h
  refine ⟨_, (pss_cons (ps_set (i := 2) sc_law_spoiled.nd rfl (Or.inl rfl) (pe_split (pv 1) pe_str))
    (pss_cons (ps_set (i := 3) sc_law_spoiled.nd rfl (Or.inl rfl) (pc (c_law_draw T) hr (pa_cons (pv 0) (pa_cons (pcb (z_len T) call_len_seq boot_len (pa_cons (pv 2) pa_nil)) pa_nil))))
    (pss_cons (ps_set (i := 4) sc_law_spoiled.nd rfl (Or.inl rfl) (pe_lst (pa_cons pe_str (pa_cons pe_str (pa_cons pe_str (pa_cons pe_str (pa_cons pe_str (pa_cons pe_str (pa_cons pe_str (pa_cons pe_str (pa_cons pe_str (pa_cons pe_str (pa_cons pe_str (pa_cons pe_str pa_nil))))))))))))))
    (pss_cons (ps_set (i := 5) sc_law_spoiled.nd rfl (Or.inl rfl) (pc (c_law_draw T) hr (pa_cons (pv 0) (pa_cons pe_int pa_nil))))
    (pss_cons (ps_if (pt_cmpR op_eq (pv 5) pe_int (nomark _))
      (pss_one (ps_asg (pe_ix ix_list (pv 4) (pc (c_law_draw T) hr (pa_cons (pv 0) (pa_cons (pcb (z_len T) call_len_seq boot_len (pa_cons (pv 4) pa_nil)) pa_nil))) (fun _ _ => rfl)) (pg_sub (pv 2) (pv 3) set_list)))
      pss_nil)
    (pss_cons (ps_if (pt_cmpR op_eq (pv 5) pe_int (nomark _))
      (pss_one (ps_expr (pe_bm PySem.F.plainAttrs_list PySem.F.slot_list_insert PySem.F.type_list_insert mt_insert (pv 2) (pa_cons (pv 3) (pa_cons (pe_ix ix_list (pv 4) (pc (c_law_draw T) hr (pa_cons (pv 0) (pa_cons (pcb (z_len T) call_len_seq boot_len (pa_cons (pv 4) pa_nil)) pa_nil))) (fun _ _ => rfl)) pa_nil)))))
      pss_nil)
    (pss_cons (ps_if (pt_cmpR op_eq (pv 5) pe_int (nomark _))
      (pss_one (ps_expr (pe_bm PySem.F.plainAttrs_list PySem.F.slot_list_pop PySem.F.type_list_pop mt_popAt (pv 2) (pa_cons (pv 3) pa_nil))))
      pss_nil)
    (pss_cons (ps_if (pt_cmpR op_eq (pv 5) pe_int (nomark _))
      (pss_one (ps_expr (pe_bm PySem.F.plainAttrs_list PySem.F.slot_list_append PySem.F.type_list_append mt_append (pv 2) (pa_cons (pe_ix ix_list (pv 2) (pv 3) (fun _ _ => rfl)) pa_nil))))
      pss_nil)
    (pss_one (ps_ret (pe_join pe_str (pv 2)))))))))))), ?_⟩
  refine ⟨_, rfl, ⟨_, rfl⟩, _, _, rfl, rfl, by decide +kernel, by (show _ ≤ 16777216); omega, fun p np => ?_⟩
  have ok0 := okWs_split nz
  have ne := split_ne z
  have pos : 0 < (Txt.split z " ").length := List.length_pos_iff.mpr ne
  have sp := smNew1 np (.lst ((Txt.split z " ").map V.str))
  have ds := (DrawAt.none dr).new np (.lst ((Txt.split z " ").map V.str))
  have hp1 : (upd H p (.lst ((Txt.split z " ").map V.str))) p = some (.lst ((Txt.split z " ").map V.str)) := upd_same
  have pd : p ≠ d := ds.ne p (by simp)
  generalize upd H p (.lst ((Txt.split z " ").map V.str)) = H1 at sp ds hp1 ⊢
  have lm : ((Txt.split z " ").map V.str).length = (Txt.split z " ").length := List.length_map ..
  have l2 := ok0.2
  refine ⟨_, rfl, _, rfl, p, _, rfl, .inl (SqL.of hp1), d, sc, _, rfl, rfl, ds.one, by omega, by omega, fun r H2 r0 r1 b2 d2 => ?_⟩
  obtain ⟨rn, rfl⟩ := Int.eq_ofNat_of_zero_le r0
  have rl : rn < (Txt.split z " ").length := by rw [lm] at r1; omega
  have ds2 := ds.but b2 d2
  have hp2 := b2.get pd hp1
  have bt2 : But d H H2 := (but_sm sp).trans b2
  refine ⟨(by decide +kernel), fun o no => ?_⟩
  have ho3 : (upd H2 o (.lst (oddL.map V.str))) o = some (.lst (oddL.map V.str)) := upd_same
  have s3 := smNew1 no (.lst (oddL.map V.str))
  have po : p ≠ o := ne_of_none hp2 no
  have od : o ≠ d := fun z => ds2.hd.ne (by rw [← z]; exact no)
  have ds3 := ds2.keep s3
  have hp3 := s3 _ _ hp2
  have bt3 : But d H (upd H2 o (.lst (oddL.map V.str))) := bt2.trans (but_sm s3)
  refine ⟨_, rfl, d, sc, _, rfl, rfl, ds3.one, by omega, by omega, fun v H4 v0 v1 b4 d4 => ?_⟩
  have ds4 := ds3.but b4 d4
  have hp4 := b4.get pd hp3
  have ho4 := b4.get od ho3
  have bt4 := bt3.trans b4
  have pick : ∀ r2 : Int, 0 ≤ r2 → r2 < ((oddL.map V.str).length : Nat) → ∃ wd, atI (oddL.map V.str) r2 = some (.str wd) ∧ 10 ∉ cl wd ∧ wd.length ≤ 6 := fun r2 h0 h1 => by
    obtain ⟨k, rfl⟩ := Int.eq_ofNat_of_zero_le h0
    have kl : k < oddL.length := by rw [List.length_map] at h1; omega
    exact ⟨oddL[k], atI_nat (by rw [List.getElem?_map, List.getElem?_eq_getElem kl]; rfl), odd_ok _ (List.getElem_mem kl)⟩
  have lodd : (oddL.map V.str).length = 12 := by rfl
  have hrn : ((Txt.split z " ").map V.str)[rn]? = some (.str (Txt.split z " ")[rn]) := by rw [List.getElem?_map, List.getElem?_eq_getElem rl]; rfl
  have wl := (split_part (z := z) (y := " ") (List.getElem_mem rl)).1
  have wn := ok0.1 _ (List.getElem_mem rl)
  have fin : ∀ (H' : Hp) (ws : List Str) (b : Nat), okWs b ws → b ≤ 2 * z.length + 10 → But d H H' → DrawAt K H' d sc → (ws.map (·.length)).sum + ws.length * (" " : Str).length ≤ 16777216 ∧ Q (.str (Txt.join " " ws)) H' := fun H' ws b ok hb bt dr' => by
    obtain ⟨f1, f2⟩ := okWs_join ok
    refine ⟨?_, q _ H' f1 (by omega) bt dr'⟩
    have h2 := ok.2
    unfold lensum at h2
    rw [blank_one]
    omega
  have lsz : ((Txt.split z " ").map V.str).length < sizeLine := small1000 (by rw [lm]; omega)
  have vs : v = 0 ∨ v = 1 ∨ v = 2 ∨ v = 3 := by omega
  rcases vs with rfl | rfl | rfl | rfl
  · refine ⟨_, rfl, rfl, _, rfl, ifT (by decide) ?_⟩
    refine ⟨_, rfl, _, rfl, _, rfl, o, _, rfl, .inl (SqL.of ho4), d, sc, _, rfl, rfl, ds4.one, by rw [lodd]; omega, by rw [lodd]; omega, fun r2 H5 r20 r21 b5 d5 => ?_⟩
    obtain ⟨wd, hwd, nw, lw⟩ := pick r2 r20 r21
    have ds5 := ds4.but b5 d5
    have hp5 := b5.get pd hp4
    have ho5 := b5.get od ho4
    refine ⟨o, _, r2, _, rfl, rfl, SqL.of ho5, hwd, ?_⟩
    refine ⟨_, rfl, _, rfl, p, _, rn, rn, rfl, rfl, hp5, ixN_n (by rw [lm]; exact rl), ?_⟩
    refine ⟨_, rfl, rfl, _, rfl, ifF (by decide) ?_⟩
    refine ⟨_, rfl, rfl, _, rfl, ifF (by decide) ?_⟩
    refine ⟨_, rfl, rfl, _, rfl, ifF (by decide) ?_⟩
    obtain ⟨f1, f2⟩ := fin (upd H5 p (.lst (((Txt.split z " ").map V.str).set rn (.str wd)))) _ _ (okWs_set ok0 rn nw) (by omega) (but_out (bt4.trans b5) np _) (ds5.upd _ (by simp)).one
    exact ⟨⟨_, rfl⟩, _, rfl, " ", p, _, rfl, rfl, .inl (SqL.of (by rw [upd_same, List.map_set])), f1, f2⟩
  · refine ⟨_, rfl, rfl, _, rfl, ifF (by decide) ?_⟩
    refine ⟨_, rfl, rfl, _, rfl, ifT (by decide) ?_⟩
    refine ⟨_, rfl, .inl ⟨rfl, _, SqL.of hp4⟩, ?_⟩
    refine ⟨_, rfl, _, rfl, _, rfl, _, rfl, o, _, rfl, .inl (SqL.of ho4), d, sc, _, rfl, rfl, ds4.one, by rw [lodd]; omega, by rw [lodd]; omega, fun r2 H5 r20 r21 b5 d5 => ?_⟩
    obtain ⟨wd, hwd, nw, lw⟩ := pick r2 r20 r21
    have ds5 := ds4.but b5 d5
    have hp5 := b5.get pd hp4
    have ho5 := b5.get od ho4
    refine ⟨o, _, r2, _, rfl, rfl, SqL.of ho5, hwd, ?_⟩
    refine ⟨p, _, rn, _, rfl, rfl, hp5, lsz, by omega, by omega, ?_⟩
    refine ⟨_, rfl, rfl, _, rfl, ifF (by decide) ?_⟩
    refine ⟨_, rfl, rfl, _, rfl, ifF (by decide) ?_⟩
    obtain ⟨f1, f2⟩ := fin (upd H5 p (.lst (((Txt.split z " ").map V.str).take rn ++ [.str wd] ++ ((Txt.split z " ").map V.str).drop rn))) _ _ (okWs_ins ok0 rn nw) (by omega) (but_out (bt4.trans b5) np _) (ds5.upd _ (by simp)).one
    exact ⟨⟨_, rfl⟩, _, rfl, " ", p, _, rfl, rfl, .inl (SqL.of (by rw [upd_same, List.map_append, List.map_append, List.map_take, List.map_drop]; rfl)), f1, f2⟩
  · refine ⟨_, rfl, rfl, _, rfl, ifF (by decide) ?_⟩
    refine ⟨_, rfl, rfl, _, rfl, ifF (by decide) ?_⟩
    refine ⟨_, rfl, rfl, _, rfl, ifT (by decide) ?_⟩
    refine ⟨_, rfl, .inl ⟨rfl, _, SqL.of hp4⟩, _, rfl, p, _, rn, rn, _, rfl, rfl, hp4, by omega, by omega, (ixN_seq (ixN_n (by rw [lm]; exact rl))).1, hrn, ?_⟩
    refine ⟨_, rfl, rfl, _, rfl, ifF (by decide) ?_⟩
    obtain ⟨f1, f2⟩ := fin (upd H4 p (.lst (((Txt.split z " ").map V.str).eraseIdx rn))) _ _ (okWs_erase ok0 rn) (by omega) (but_out bt4 np _) (ds4.upd _ (by simp)).one
    exact ⟨⟨_, rfl⟩, _, rfl, " ", p, _, rfl, rfl, .inl (SqL.of (by rw [upd_same, map_erase])), f1, f2⟩
  · refine ⟨_, rfl, rfl, _, rfl, ifF (by decide) ?_⟩
    refine ⟨_, rfl, rfl, _, rfl, ifF (by decide) ?_⟩
    refine ⟨_, rfl, rfl, _, rfl, ifF (by decide) ?_⟩
    refine ⟨_, rfl, rfl, _, rfl, ifT (by decide) ?_⟩
    refine ⟨_, rfl, .inl ⟨rfl, _, SqL.of hp4⟩, ?_⟩
    refine ⟨_, rfl, _, rfl, p, _, rn, _, rfl, rfl, SqL.of hp4, atI_nat hrn, p, _, _, rfl, rfl, hp4, lsz, ?_⟩
    obtain ⟨f1, f2⟩ := fin (upd H4 p (.lst (((Txt.split z " ").map V.str) ++ [.str (Txt.split z " ")[rn]]))) _ _ (okWs_app ok0 wn) (by omega) (but_out bt4 np _) (ds4.upd _ (by simp)).one
    exact ⟨⟨_, rfl⟩, _, rfl, " ", p, _, rfl, rfl, .inl (SqL.of (by rw [upd_same, List.map_append]; rfl)), f1, f2⟩
end
end RM

set_option Elab.async false
set_option linter.all false
set_option maxRecDepth 100000
set_option maxHeartbeats 2000000
set_option pp.maxSteps 600
set_option pp.deepTerms false
namespace RM
open PySem PySem.Spec PyProof.Rows L2
/-! ### texts of lines: plain -/
def freeL (zs : List Str) : Prop := ∀ z ∈ zs, 10 ∉ cl z
theorem split_lines {zs : List Str} (h : freeL zs) (ne : zs ≠ []) : Txt.split (Txt.join "\n" zs) "\n" = zs := TL.split_join (s := 10) (S := []) feed_one (by decide +kernel) ne h
theorem nil_split : Txt.split "" "\n" = ([""] : List Str) := by decide +kernel
theorem linesOf_text {zs : List Str} (h : freeL zs) : linesOf (Txt.join "\n" zs) = if Txt.join "\n" zs = "" then [] else zs := by
  unfold linesOf
  split
  · rfl
  · rename_i ne
    exact split_lines h fun e => ne (by rw [e]; decide +kernel)
theorem empty_text {zs : List Str} (h : freeL zs) (e : Txt.join "\n" zs = "") : zs = [] ∨ zs = ([""] : List Str) := by
  rcases Decidable.em (zs = []) with n | n
  · exact .inl n
  · have := split_lines h n
    rw [e, nil_split] at this
    exact .inr this.symm
theorem lineT_free {g : WM} (h : okM g) : 10 ∉ cl (lineT g) := by
  unfold lineT
  split
  · decide +kernel
  · intro z
    rw [cl_join] at z
    rcases joinL_mem _ z with e | ⟨p, hp, hc⟩
    · exact absurd e (by decide)
    · obtain ⟨w, hw, rfl⟩ := List.mem_map.mp hp
      obtain ⟨q, hq, rfl⟩ := List.mem_map.mp hw
      exact (word_signs (h.1 q hq).1 (h.1 q hq).2 hc).2 rfl
theorem lineT_ne {g : WM} (h : okM g) (s : sortedS (wKeys g) = true) (l : g.length ≤ 4) : lineT g ≠ "" := fun e => by
  have := rdL_own h s l
  rw [e] at this
  have d : rdL "" = none := by decide +kernel
  rw [d] at this
  cases this
theorem lineT_len3 {g : WM} (h : okM g) (hl : g.length ≤ 3) : (lineT g).length ≤ 33 := by
  unfold lineT
  split
  · decide +kernel
  · have h1 := join_len (g.map wordT)
    have h2 := sum_le (f := fun z => z.length) (b := 10) (l := g.map wordT) fun z hz => by
      obtain ⟨q, hq, rfl⟩ := List.mem_map.mp hz
      exact wordT_len (h.1 q hq).1 (h.1 q hq).2
    rw [List.length_map] at h1 h2
    omega
/-- right dicts of changes -/
def OkC (g : WM) : Prop := okM g ∧ sortedS (wKeys g) = true ∧ g.length ≤ 3
theorem own_lines {gs : List WM} (h : ∀ g ∈ gs, OkC g) : freeL (gs.map lineT) ∧ (gs.map lineT).map rdL = gs.map some := by
  refine ⟨fun z hz => ?_, ?_⟩
  · obtain ⟨g, hg, rfl⟩ := List.mem_map.mp hz
    exact lineT_free (h g hg).1
  · rw [List.map_map]
    refine List.map_congr_left fun g hg => ?_
    have := h g hg
    exact rdL_own this.1 this.2.1 (by have := this.2.2; omega)
theorem own_text {gs : List WM} (h : ∀ g ∈ gs, OkC g) : (linesOf (textC gs)).map rdL = gs.map some := by
  obtain ⟨f, m⟩ := own_lines h
  unfold textC
  rw [linesOf_text f]
  split
  · rename_i e
    rcases empty_text f e with n | n
    · rw [List.map_eq_nil_iff] at n
      rw [n]
      rfl
    · exfalso
      cases gs with
      | nil => cases n
      | cons g r =>
        rw [List.map_cons] at n
        injection n with n1 n2
        have := h g List.mem_cons_self
        exact lineT_ne this.1 this.2.1 (by have := this.2.2; omega) n1
  · exact m
theorem map_some_inj {α : Type} {a b : List α} (h : a.map some = b.map some) : a = b := by
  have := congrArg (List.filterMap id) h
  simpa using this
theorem badL_nil : badL [] = none := rfl
theorem badL_snoc (a : List Str) (z : Str) : badL (a ++ [z]) = match badL a with | some k => some k | none => if (rdL z).isSome = true then none else some a.length := by
  unfold badL
  rw [List.findIdx?_append]
  cases e : a.findIdx? (fun z => (rdL z).isNone) with
  | some k => rfl
  | none =>
    cases r : rdL z with
    | none => simp [List.findIdx?_cons, r]
    | some g => simp [List.findIdx?_cons, r]
theorem badL_all {zs : List Str} (h : badL zs = none) : ∃ gs : List WM, zs.map rdL = gs.map some := by
  unfold badL at h
  rw [List.findIdx?_eq_none_iff] at h
  refine ⟨zs.filterMap rdL, ?_⟩
  induction zs with
  | nil => rfl
  | cons z r ih =>
    have hz := h z List.mem_cons_self
    cases e : rdL z with
    | none => rw [e] at hz; cases hz
    | some g =>
      rw [List.map_cons, List.filterMap_cons, e, ih fun x hx => h x (List.mem_cons_of_mem _ hx)]
      rfl
theorem text_back {zs : List Str} {gs : List WM} (h : zs.map rdL = gs.map some) : gs.map lineT = zs := by
  induction zs generalizing gs with
  | nil =>
    cases gs with
    | nil => rfl
    | cons _ _ => cases h
  | cons z r ih =>
    cases gs with
    | nil => cases h
    | cons g s =>
      rw [List.map_cons, List.map_cons] at h
      injection h with h1 h2
      rw [List.map_cons, ih h2, (rdL_back h1).1]
theorem lensum_set_eq : ∀ {ws : List Str} {i : Nat} {v w : Str}, ws[i]? = some v → lensum (ws.set i w) + v.length = lensum ws + w.length
  | [], i, v, w, h => by simp at h
  | a :: r, 0, v, w, h => by
    have h : a = v := by simpa using h
    subst h
    show (w.length + (r.map _).sum) + a.length = (a.length + (r.map _).sum) + w.length
    omega
  | a :: r, i + 1, v, w, h => by
    have h : r[i]? = some v := by simpa using h
    have := lensum_set_eq (w := w) h
    show (a.length + lensum (r.set i w)) + v.length = (a.length + lensum r) + w.length
    omega
theorem lensum_mem {ws : List Str} {w : Str} (h : w ∈ ws) : w.length ≤ lensum ws := by
  unfold lensum
  induction ws with
  | nil => cases h
  | cons a r ih =>
    rw [List.map_cons, List.sum_cons]
    rcases List.mem_cons.mp h with rfl | h
    · omega
    · have := ih h; omega
theorem joinN_len (parts : List Str) : (Txt.join "\n" parts).length ≤ lensum parts + parts.length := by
  rw [← cl_len, show cl (Txt.join "\n" parts) = TL.joinL (TL.tl "\n") (parts.map TL.tl) from by
    show TL.tl (Txt.join "\n" parts) = _
    rw [TL.join_eq, TL.tl_join]]
  refine Nat.le_trans (joinL_len _ _) ?_
  rw [feed_one, lensum_tl, List.length_map]
  simp
end RM

set_option Elab.async false
set_option linter.all false
set_option maxRecDepth 100000
set_option maxHeartbeats 2000000
/-! two lists of instances of one own class with ==, each equal to the other's: != gives False -/
namespace RM
open PySem PySem.Spec PyProof.Rows L2
section
variable {prog : Program} {w : World} {A : Around} {R : Result → Shared → Prop} {l b : Addr} {xs ys : Array Value} {J : Shared → Prop}
theorem ne_turns (same : xs.size = ys.size)
    (hl : ∀ s, J s → ∃ n dd sl, s.heap.get? l = some { cls := .type "list", dict := dd, data := .seq xs n, slots := sl }) (hb : ∀ s, J s → ∃ n dd sl, s.heap.get? b = some { cls := .type "list", dict := dd, data := .seq ys n, slots := sl })
    (he : ∀ (i : Nat) (h1 : i < xs.size) (h2 : i < ys.size) (s : Shared) (Q : Bool → Shared → Prop), J s → (∀ s', J s' → Q true s') → wpAny (model prog w) A.in1 (eqBool xs[i] ys[i]) Q (fun e s' => R (.error e) s') s)
    (fin : ∀ s, J s → R (.ok (.ret (.bool false))) s) (k : Nat) : ∀ (i : Nat) (s : Shared), xs.size - i = k → J s →
      wpAny (model prog w) A.in1 (Builtin.«list.__eq__.loop» ⟨[.ref l, .ref b, rawInt i, rawInt 3], []⟩) (fun f s' => match f with | .done f => R (.ok f) s' | .again c' => c'.quiet = true ∧ codeAny (model prog w) A c' R s') (fun e s' => R (.error e) s') s := by
  induction k with
  | zero =>
    intro i s hk j
    obtain ⟨n, dd, sl, gl⟩ := hl s j
    obtain ⟨n2, dd2, sl2, gb⟩ := hb s j
    have last := fin s j
    obtain ⟨hp, g, d, tk, os⟩ := s
    have out1 : xs[((i : Nat) : Int).toNat]? = none := by simp; omega
    have out2 : ys[((i : Nat) : Int).toNat]? = none := by simp; omega
    wp_walk using AutoSeq1.wpAny_loadPart' gl, AutoSeq1.wpAny_loadPart' gb
    rw [out1, out2]
    wp_walk using AutoSeq1.wpAny_loadPart' gl, AutoSeq1.wpAny_loadPart' gb
    show R (.ok (.ret (.bool (xs.size != ys.size)))) _
    rw [same, bne_self_eq_false]
    exact last
  | succ k ih =>
    intro i s hk j
    obtain ⟨n, dd, sl, gl⟩ := hl s j
    obtain ⟨n2, dd2, sl2, gb⟩ := hb s j
    have at1 : i < xs.size := by omega
    have at2 : i < ys.size := by omega
    have step := he i at1 at2 s
    obtain ⟨hp, g, d, tk, os⟩ := s
    have in1 : xs[((i : Nat) : Int).toNat]? = some xs[i] := by simp [at1]
    have in2 : ys[((i : Nat) : Int).toNat]? = some ys[i] := by simp [at2]
    wp_walk using AutoSeq1.wpAny_loadPart' gl, AutoSeq1.wpAny_loadPart' gb
    rw [in1, in2]
    refine wpAny_bind (step _ j fun s2 j2 => ?_)
    obtain ⟨m, dm, sm, gm⟩ := hl s2 j2
    obtain ⟨m2, dm2, sm2, gm2⟩ := hb s2 j2
    have more := ih (i + 1) s2 (by omega) j2
    obtain ⟨hp2, g2, d2, tk2, os2⟩ := s2
    wp_walk
    rw [show ((i : Int) + 1) = ((i + 1 : Nat) : Int) from rfl]
    exact ⟨plainId_quiet MeetsSeq3.plain_eq_loop _, codeAny_builtin MeetsSeq3.entry_eq_loop (by
      rw [Around.under_plainId MeetsSeq3.plain_eq_loop _]
      exact more)⟩
end
end RM

set_option Elab.async false
set_option linter.all false
set_option maxRecDepth 100000
set_option maxHeartbeats 2000000
/-! x != y of two lists of instances of one own class, each equal to the other's -/
namespace RM
open PySem PySem.Spec PyProof.Rows L2
section
variable {X : Cx} {k j : Nat} {C : Addr} {sp : Sp}
theorem eq_in1 (c : Own X.prog X.w X.K X.mg X.base k C "__eq__" sp) (hr : Room j X.A) (hk : k + 1 ≤ j) {pins : List (Addr × Obj)} {σ : L2.St} {H : Hp} {s : Shared} {a b : Addr} {dx dy : Addr} {fs gs : List (Str × V)} {E : Value → Shared → Prop} {Q : Bool → Shared → Prop}
    (I : Inv X pins σ H s) (ha : H a = some (.ins C dx fs)) (hb : H b = some (.ins C dy gs)) (hsp : ∀ Q : VK, Q (.bl true) H → sp [.ref a, .ref b] H Q E0) (q : ∀ s', Inv X pins σ H s' → Q true s') : wpAny (model X.prog X.w) X.A.in1 (eqBool (.ref a) (.ref b)) Q X.xe s := by
  obtain ⟨f, fd, ps, F, hs, hf, B⟩ := c
  obtain ⟨_, ia, _⟩ := ins_get I.hok ha
  obtain ⟨_, ib, _⟩ := ins_get I.hok hb
  obtain ⟨_, la, _⟩ := ia.look
  obtain ⟨_, lb, _⟩ := ib.look
  have un := (hr.mono hk).un
  unfold eqBool
  refine wpAny_holding ?_
  show wpAny _ _ (if (Value.ref a == Value.ref b) = true then _ else _) Q _ s
  by_cases hab : (Value.ref a == Value.ref b) = true
  · rw [if_pos hab]
    exact wpAny_bind (wpAny_rule (wpAny_pure (q s I)))
  rw [if_neg hab]
  refine wpAny_bind (m := richCompare .Eq (.ref a) (.ref b)) (PySem.W.cmp_K (op := .Eq) (tb := .ref C) (by show X.A.units + 1 < cLine; omega) I.fr.choose_spec I.ok.mod.kin la lb.type (by simp [PySem.W.notFirst]) hs hf (thn (ask_in1 (vs := [.ref a, .ref b]) F B (hr.mono hk) pass0 I (.cons rfl (.cons rfl .nil)) (hsp (fun v H' => v = .bl true ∧ H' = H) ⟨rfl, rfl⟩)) fun r s1 z => ?_))
  obtain ⟨z, H1, I1, rz, rfl, rfl⟩ := z
  cases rz
  exact wpAny_truthy_bool (q s1 I1)
theorem vals_refs : ∀ {as : List Addr} {its : List Value}, Vals (as.map V.ref) its → its = as.map Value.ref
  | [], its, h => by cases h; rfl
  | a :: r, its, h => by
    cases h with
    | cons x y =>
      rw [vals_refs y]
      cases x
      rfl
def rNeL (C : Addr) (sp : Sp) : R2 := fun x y H Q => ∃ (p q : Addr) (as bs : List Addr), x = .ref p ∧ y = .ref q ∧ H p = some (.lst (as.map V.ref)) ∧ H q = some (.lst (bs.map V.ref)) ∧ as.length = bs.length ∧
  (∀ (i : Nat) (a b : Addr), as[i]? = some a → bs[i]? = some b → ∃ dx dy fs gs, H a = some (.ins C dx fs) ∧ H b = some (.ins C dy gs) ∧ ∀ Q : VK, Q (.bl true) H → sp [.ref a, .ref b] H Q E0) ∧ Q (.bl false) H
theorem op_neL (c : Own X.prog X.w X.K X.mg X.base k C "__eq__" sp) (hr : Room j X.A) (hk : k + 1 ≤ j := by omega) : OpR X (compareOp .NotEq) (rNeL C sp) := by
  rintro pins s σ H _ _ v u Q I rx ry ⟨p, q, as, bs, rfl, rfl, hp, hq, hl, el, fin⟩
  cases rx
  cases ry
  have at1 : ∀ s', Inv X pins σ H s' → PlainL s'.heap p (as.map Value.ref).toArray := fun s' I' => by
    obtain ⟨its, r, e, _⟩ := I'.list (SqL.of hp)
    rw [vals_refs r] at e
    exact e
  have at2 : ∀ s', Inv X pins σ H s' → PlainL s'.heap q (bs.map Value.ref).toArray := fun s' I' => by
    obtain ⟨its, r, e, _⟩ := I'.list (SqL.of hq)
    rw [vals_refs r] at e
    exact e
  have open1 : ∀ {h : Heap} {a : Addr} {xs : Array Value}, PlainL h a xs → ∃ n dd sl, h.get? a = some { cls := .type "list", dict := dd, data := .seq xs n, slots := sl } := fun ⟨⟨c, d, dt, sl⟩, n, e, c1, d1, t1⟩ => by
    cases c1
    cases d1
    cases t1
    exact ⟨n, _, _, e⟩
  have un := (hr.mono hk).un
  have sz : (as.map Value.ref).toArray.size = (bs.map Value.ref).toArray.size := by simp [hl]
  have J := ne_turns (prog := X.prog) (w := X.w) (A := X.A) (R := wants (fun v s' => v ≠ .notImplemented ∧ EP X pins σ Q v s') X.xe) (l := p) (b := q) (J := fun s' => Inv X pins σ H s') sz (fun s' I' => open1 (at1 s' I')) (fun s' I' => open1 (at2 s' I'))
    (fun i h1 h2 s' Q' I' q' => by
      have i1 : i < as.length := by simpa using h1
      have i2 : i < bs.length := by simpa using h2
      obtain ⟨dx, dy, fs, gs, ha, hb, hsp⟩ := el i as[i] bs[i] (List.getElem?_eq_getElem i1) (List.getElem?_eq_getElem i2)
      have := eq_in1 (E := X.xe) (Q := Q') c hr hk I' ha hb hsp q'
      simpa using this)
    (fun s' I' => ⟨(by intro e; cases e), .bl false, H, I', rfl, fin⟩)
  obtain ⟨n1, d1, sl1, g1⟩ := open1 (at1 s I)
  obtain ⟨n2, d2, sl2, g2⟩ := open1 (at2 s I)
  have go := J _ 0 s rfl I
  show wpAny _ _ (richCompare .NotEq (.ref p) (.ref q)) _ _ s
  have t1 : s.TypeIs (.ref p) "list" := ⟨_, g1, rfl⟩
  have t2 : s.TypeIs (.ref q) "list" := ⟨_, g2, rfl⟩
  refine wpAny_richCompare_same_room (op := .NotEq) t1 t2 F.slot_list_ne (wpAny_call (codeAny_call_builtin F.slot_list_ne.plain F.entry_list_ne (F.slot_list_ne.check _ _ _ _ _ _ _ _ t1 (F.args_list_ne_2 _ _) ?_))) (by omega)
  obtain ⟨hh, g, d, tk, os⟩ := s
  have f3 := AutoSeq1.sub_list_list
  have hne : ¬ ((as.map Value.ref).toArray.size != (bs.map Value.ref).toArray.size) = true := by simp [hl]
  wp_walk using AutoSeq1.wpAny_loadPart' g1, AutoSeq1.wpAny_loadPart' g2
  exact ⟨plainId_quiet MeetsSeq3.plain_eq_loop _, codeAny_builtin MeetsSeq3.entry_eq_loop (by
    rw [Around.under_plainId MeetsSeq3.plain_eq_loop _]
    exact go)⟩
end
end RM

set_option Elab.async false
set_option linter.all false
set_option maxRecDepth 100000
set_option maxHeartbeats 2000000
/-! a list comprehension whose element knows the list that is made -/
namespace RM
open PySem PySem.Spec PyProof.Rows L2
theorem lc_optD {α : Type} {J : It} {n : Nat} {G : Hp → Prop} {Y : Nat → Hp → V → Hp → Prop} (wk : Walk J n G Y) {g : TG} {tt : TT} {te : TE} {vs : List Nat} {σ : L2.St} {H1 : Hp} {D : Addr} {Qd : Hp → Prop}
    (R : α → V → Hp → Prop) (o : Nat → Option α) (hD : H1 D = none) (hn : n < sizeLine) (hG : ∀ H, Same H1 H → G H)
    (hR : ∀ a y H H', R a y H → Same H H' → R a y H') (hRD : ∀ a y H l l', R a y H → H D = some (.lst l) → R a y (upd H D (.lst l')))
    (hs : ∀ i x H H' acc0 (N : Hp → Prop), i < n → Same H1 H → H D = some (.lst acc0) → Y i H x H' →
      (∀ y H4 a, o i = some a → Same H H4 → R a y H4 → ∃ acc, H4 D = some (.lst acc) ∧ acc.length < sizeLine ∧ N (upd H4 D (.lst (acc ++ [y])))) → (o i = none → ∀ H3, Same H H3 → N H3) →
      g x (wipe σ vs) H' fun σ2 H2 => wipe σ2 vs = wipe σ vs ∧ tt σ2 H2 fun b H3 => if b = true then addsL D te σ2 H3 N else N H3)
    (hd : ∀ H ys, Same H1 H → H D = some (.lst ys) → Paired (fun y a => R a y H) ys ((List.range n).filterMap o) → Qd H) :
    ∃ W : Nat → Nat → Hp → Prop, (∃ m, W 0 m (upd H1 D (.lst []))) ∧ Turns J g tt (addsL D te) (wipe σ vs) vs W Qd := by
  have len : ∀ i, ((List.range i).filterMap o).length ≤ i := fun i => Nat.le_trans (List.length_filterMap_le ..) (by simp)
  refine lc_it wk (fun i H => i ≤ n ∧ Same H1 H ∧ ∃ acc, H D = some (.lst acc) ∧ Paired (fun y a => R a y H) acc ((List.range i).filterMap o)) ⟨Nat.zero_le _, smNew1 hD _, [], upd_same, .nil⟩ (fun i H _ h => hG H h.2.1) ?_ ?_
  · rintro i x H H' hi ⟨_, s1, acc, hacc, p⟩ y
    refine hs i x H H' acc _ hi s1 hacc y (fun y H4 a ha s4 r => ⟨acc, s4 _ _ hacc, ?_, hi, ?_, acc ++ [y], upd_same, ?_⟩) (fun ha H3 s3 => ⟨hi, fun b u q => s3 _ _ (s1 _ _ q), acc, s3 _ _ hacc, ?_⟩)
    · have := p.length
      have := len i
      omega
    · exact fun b u q => by
        rw [upd_ne (ne_of_none q hD)]
        exact s4 _ _ (s1 _ _ q)
    · rw [List.range_succ, List.filterMap_append, List.filterMap_cons, ha]
      have old := paired_mono p fun y' a' r' => hRD _ _ _ _ (acc ++ [y]) (hR _ _ _ _ r' s4) (s4 _ _ hacc)
      exact Paired.snoc old (hRD _ _ _ _ _ r (s4 _ _ hacc))
    · rw [List.range_succ, List.filterMap_append, List.filterMap_cons, ha, List.filterMap_nil, List.append_nil]
      exact paired_mono p fun y' a' r' => hR _ _ _ _ r' s3
  · rintro H ⟨_, s1, acc, hacc, p⟩
    exact hd H acc s1 hacc p
/-- values that are addresses -/
theorem paired_refs {β : Type} {F : Addr → β → Prop} : ∀ {ys : List V} {l : List β}, Paired (fun y b => ∃ a, y = .ref a ∧ F a b) ys l → ∃ as : List Addr, ys = as.map V.ref ∧ Paired F as l
  | _, _, .nil => ⟨[], rfl, .nil⟩
  | _, _, .cons ⟨a, e, h⟩ t => let ⟨as, e2, h2⟩ := paired_refs t; ⟨a :: as, by rw [e, e2]; rfl, .cons h h2⟩
end RM

set_option Elab.async false
set_option linter.all false
set_option maxRecDepth 100000
set_option maxHeartbeats 4000000
set_option pp.maxSteps 600
set_option pp.deepTerms false
namespace RM
open PySem PySem.Spec PyProof.Rows L2
def menu5 : List Str := ["a", "b", "mode", "portal", "url"]
theorem menu5_ok : ∀ k ∈ menu5, isWord k = true := by decide +kernel
def vals6 : List Int := [0, 1, -1, 99, -99, 10]
theorem vals6_ok : ∀ k ∈ vals6, isValue k = true := by decide +kernel
section
variable {P : Program} {w : World} {K : PySem.W.Frag} {mg : Str → Option Value} {base : Heap}
theorem Hd4.off {H : Hp} {d sc p : Addr} (h : Hd4 H d sc) (n : p ≠ d) (o : HO) : Hd4 (upd H p o) d sc := let ⟨a, b, c, e, z⟩ := h; ⟨a, b, c, by rw [upd_ne n.symm]; exact e, z⟩
theorem DrawS.but4 {H H' : Hp} {d sc : Addr} {S : List Addr} (h : DrawS K H d sc S) (b : But d H H') (hd : Hd4 H' d sc) : DrawS K H' d sc S := ⟨hd, h.sc.keep fun c u hc => by
  unfold dlS at hc ⊢
  by_cases z : c ∈ S
  · rw [if_pos z] at hc; cases hc
  · rw [if_neg z] at hc ⊢
    exact b _ _ hc, h.ne⟩
theorem ChgsAt.ls {H H' : Hp} {S : List Addr} {cs : List V} {gs : List WM} (e : Ls S H H') (h : ChgsAt K H cs gs) : ChgsAt K H' cs gs := paired_mono h fun v g ⟨a, e1, c⟩ => ⟨a, e1, e.chg c⟩
theorem drawn_of {e : Int} {n : Nat} (h0 : 0 ≤ e) (h1 : e < (n : Int)) : ∃ k : Nat, e = k ∧ k < n := ⟨e.toNat, by omega, by omega⟩
def spLaw (K : PySem.W.Frag) : Sp := fun vs H Q _ => match vs with
  | [x] => ∃ (a : Addr) (xs : List Int), x = .ref a ∧ SqL K H a (xs.map V.int) ∧ ∀ H', Q (.bl true) H'
  | _ => False
def dueN : Option Nat → Int
  | none => 0
  | some k => ((k + 1 : Nat) : Int)
/-- what stands while the law builds: draws, menu, changes, lines -/
structure Bld (K : PySem.W.Frag) (H : Hp) (d sc mn C L : Addr) (cs : List V) (gs : List WM) (zs : List Str) : Prop where
  dr : DrawS K H d sc [L, C]
  hM : H mn = some (.lst (menu5.map V.str))
  md : mn ≠ d ∧ mn ≠ C ∧ mn ≠ L ∧ C ≠ L
  hC : H C = some (.lst cs)
  hL : H L = some (.lst (zs.map V.str))
  ch : ChgsAt K H cs gs
theorem Bld.but {H H' : Hp} {d sc mn C L : Addr} {cs : List V} {gs : List WM} {zs : List Str} (h : Bld K H d sc mn C L cs gs zs) (b : But d H H') (hd : Hd4 H' d sc) : Bld K H' d sc mn C L cs gs zs :=
  ⟨h.dr.but4 b hd, b.get h.md.1 h.hM, h.md, b.get (h.dr.ne C (by simp)) h.hC, b.get (h.dr.ne L (by simp)) h.hL, h.ch.ls (Ls.but (S := [d]) b h.dr.hd (by simp))⟩
theorem Bld.sm {H H' : Hp} {d sc mn C L : Addr} {cs : List V} {gs : List WM} {zs : List Str} (h : Bld K H d sc mn C L cs gs zs) (e : Same H H') : Bld K H' d sc mn C L cs gs zs := h.but (but_sm e) (h.dr.hd.keep e)
theorem sc_law : FnScope ["_law_script", "_law_draws", "_law_menu", "_law_changes", "_law_lines", "_law_k", "_law_given", "_law_j", "_law_words", "_law_text", "_law_at", "_law_due", "_law_told", "_law_found", "e", "_law_key"] ["_law_script"] (defScope s_law) := ⟨rfl, rfl, rfl, by decide +kernel, rfl, by decide +kernel, by decide +kernel⟩
theorem b_law (T : Top w K mg) : Body0 P w K mg base ["_law_script", "_law_draws", "_law_menu", "_law_changes", "_law_lines", "_law_k", "_law_given", "_law_j", "_law_words", "_law_text", "_law_at", "_law_due", "_law_told", "_law_found", "e", "_law_key"] "law" s_law (He.ga K "law") 22 (spLaw K) := by
  intro cdv A outer s H0 vs Q E hr h
  match vs, h with
  | [x], h =>
  obtain ⟨a, xs, rfl, ha, q⟩ := h
  refine ⟨_, (pss_cons (ps_set (i := 1) sc_law.nd rfl (Or.inl rfl) (pc (c_law_begin T) hr (pa_cons (pv 0) pa_nil)))
    (pss_cons (ps_set (i := 2) sc_law.nd rfl (Or.inl rfl) (pe_lst (pa_cons pe_str (pa_cons pe_str (pa_cons pe_str (pa_cons pe_str (pa_cons pe_str pa_nil)))))))
    (pss_cons (ps_set (i := 3) sc_law.nd rfl (Or.inl rfl) (pe_lst pa_nil))
    (pss_cons (ps_set (i := 4) sc_law.nd rfl (Or.inl rfl) (pe_lst pa_nil))
    (pss_cons (ps_for PassesOwn.never rfl (pi_range1 rfl (z_range T) (pa_cons (pc (c_law_draw T) hr (pa_cons (pv 1) (pa_cons pe_int pa_nil))) pa_nil)) (pg_name (i := 5) sc_law.nd rfl (Or.inl rfl))
      (pss_cons (ps_set (i := 6) sc_law.nd rfl (Or.inr rfl) pe_dnewK)
    (pss_cons (ps_for PassesOwn.never rfl (pi_range1 rfl (z_range T) (pa_cons (pc (c_law_draw T) hr (pa_cons (pv 1) (pa_cons pe_int pa_nil))) pa_nil)) (pg_name (i := 7) sc_law.nd rfl (Or.inl rfl))
      (pss_one (ps_dput (hu_of hr) (pv 6) (pe_ix ix_list (pv 2) (pc (c_law_draw T) hr (pa_cons (pv 1) (pa_cons pe_int pa_nil))) (fun _ _ => rfl)) (pe_ix ix_list (pe_lst (pa_cons pe_int (pa_cons pe_int (pa_cons (pe_un un_neg pe_int) (pa_cons pe_int (pa_cons (pe_un un_neg pe_int) (pa_cons pe_int pa_nil))))))) (pc (c_law_draw T) hr (pa_cons (pv 1) (pa_cons pe_int pa_nil))) (fun _ _ => rfl)) rfl)))
    (pss_cons (ps_expr (pe_bm PySem.F.plainAttrs_list PySem.F.slot_list_append PySem.F.type_list_append mt_append (pv 3) (pa_cons (pmk (c_Change_init T) hr (pa_cons (pv 6) pa_nil)) pa_nil)))
    (pss_cons (ps_setLc (i := 8) (own := [("_law_key", 15)]) rfl sc_law.nd rfl rfl (sw_true rfl rfl rfl (by decide +kernel)) (pi_list (pcb (z_sorted T) (call_sortedD rfl) boot_sorted (pa_cons (pv 6) pa_nil))) (blkOk_by (own := [("_law_key", 15)]) (N := ["_law_script", "_law_draws", "_law_menu", "_law_changes", "_law_lines", "_law_k", "_law_given", "_law_j", "_law_words", "_law_text", "_law_at", "_law_due", "_law_told", "_law_found", "e", "_law_key"]) (sc := defScope s_law) (by decide +kernel)) (fun _ _ _ _ _ => (pg_name (i := 15) sc_law.nd rfl (Or.inl rfl) (Or.inr rfl))) (fun _ _ _ _ _ => pts_nil) (fun _ _ _ _ _ => (pe_op op_add_str (pe_op op_add_str (pv 15) pe_str) (pct (z_str T) call_str_int boot_str (pa_cons (pe_dget (hu_of hr) (pv 6) (pv 15) (fun _ _ => rfl)) pa_nil)))))
    (pss_one (ps_expr (pe_bm PySem.F.plainAttrs_list PySem.F.slot_list_append PySem.F.type_list_append mt_append (pv 4) (pa_cons (pe_ix ix_list (pe_lst (pa_cons (pe_join pe_str (pv 8)) (pa_cons pe_str pa_nil))) (pct (z_int T) call_int1 boot_int (pa_cons (pe_cmpR op_eq (pcb (z_len T) call_lenD boot_len (pa_cons (pv 6) pa_nil)) pe_int (nomark _)) pa_nil)) (fun _ _ => rfl)) pa_nil)))))))))
    (pss_cons (ps_set (i := 9) sc_law.nd rfl (Or.inl rfl) (pc (c_write_changes T) hr (pa_cons (pv 3) pa_nil)))
    (pss_cons (ps_if (PW.pt (pw_or (pt_cmpR op_ne (pv 9) (pe_join pe_str (pv 4)) (nomark _)) (pw_or1 (pt_cmpR (op_neL (o_Change_eq T) hr) (pc (c_read_changes T).calm hr (pa_cons (pv 9) pa_nil)) (pv 3) (nomark _)))))
      (pss_one (ps_ret pe_bl))
      pss_nil)
    (pss_cons (ps_for PassesOwn.never rfl (pi_range1 rfl (z_range T) (pa_cons (pc (c_law_draw T) hr (pa_cons (pv 1) (pa_cons pe_int pa_nil))) pa_nil)) (pg_name (i := 5) sc_law.nd rfl (Or.inl rfl))
      (pss_one (ps_if (pt_cmpR op_gt (pcb (z_len T) call_len_seq boot_len (pa_cons (pv 4) pa_nil)) pe_int (nomark _))
      (pss_cons (ps_set (i := 10) sc_law.nd rfl (Or.inl rfl) (pc (c_law_draw T) hr (pa_cons (pv 1) (pa_cons (pcb (z_len T) call_len_seq boot_len (pa_cons (pv 4) pa_nil)) pa_nil))))
    (pss_one (ps_asg (pc (c_law_spoiled T) hr (pa_cons (pv 1) (pa_cons (pe_ix ix_list (pv 4) (pv 10) (fun _ _ => rfl)) pa_nil))) (pg_sub (pv 4) (pv 10) set_list))))
      pss_nil)))
    (pss_cons (ps_mid (ps_if (pt_cmpR op_eq (pc (c_law_draw T) hr (pa_cons (pv 1) (pa_cons pe_int pa_nil))) pe_int (nomark _))
      (pss_one (ps_expr (pe_bm PySem.F.plainAttrs_list PySem.F.slot_list_append PySem.F.type_list_append mt_append (pv 4) (pa_cons pe_str pa_nil))))
      pss_nil))
    (pss_cons (ps_set (i := 9) sc_law.nd rfl (Or.inl rfl) (pe_join pe_str (pv 4)))
    (pss_cons (ps_set (i := 11) sc_law.nd rfl (Or.inl rfl) pe_int)
    (pss_cons (ps_for PassesOwn.never rfl (pi_range1 rfl (z_range T) (pa_cons (pcb (z_len T) call_len_seq boot_len (pa_cons (pv 4) pa_nil)) pa_nil)) (pg_name (i := 5) sc_law.nd rfl (Or.inl rfl))
      (pss_one (ps_if (PW.pt (pw_and (pt_cmpR op_eq (pv 11) pe_int (nomark _)) (pw_and1 (pt_not (pt_val (pc (c_law_line_good T) hr (pa_cons (pe_ix ix_list (pv 4) (pv 5) (fun _ _ => rfl)) pa_nil)))))))
      (pss_one (ps_set (i := 11) sc_law.nd rfl (Or.inl rfl) (pe_op op_add (pv 5) pe_int)))
      pss_nil)))
    (pss_cons (ps_set (i := 12) sc_law.nd rfl (Or.inl rfl) pe_int)
    (pss_cons (ps_set (i := 13) sc_law.nd rfl (Or.inl rfl) (pe_lst pa_nil))
    (pss_cons (ps_tryG (fun W pn xe tk => (pss_one (ps_set (i := 13) sc_law.nd rfl (Or.inl rfl) (pcX tk (c_read_changes T) hr (pa_cons (pv 9) pa_nil)))))
      (hds_as (i := 14) sc_law.nd rfl rfl ⟨rfl, by decide, Or.inl (g_BadText T)⟩
      (fun a oe cls d pn hz hf => (pss_one (ps_set (i := 12) sc_law.nd rfl (Or.inl rfl) (pe_xf (xfB_ok (xf_BadText T)) (na_BadText_line T) hz hf (pv 14)))))
      (hds_nil takes0)))
    (pss_cons (ps_if (pt_cmpR op_eq (pv 9) pe_str (nomark _))
      (pss_one (ps_ret (pe_and (pe_cmpR op_eq (pv 12) pe_int (nomark _)) (pe_one (pe_cmpR (op_eqD (room64 hr)) (pv 13) (pe_lst pa_nil) (nomark _))))))
      pss_nil)
    (pss_cons (ps_if (pt_cmpR op_gt (pv 11) pe_int (nomark _))
      (pss_one (ps_ret (pe_cmpR op_eq (pv 12) (pv 11) (nomark _))))
      pss_nil)
    (pss_one (ps_ret (pe_and (pe_cmpR op_eq (pv 12) pe_int (nomark _)) (pe_one (pe_cmpR op_eq (pc (c_write_changes T) hr (pa_cons (pv 13) pa_nil)) (pv 9) (nomark _))))))))))))))))))))))), ?_⟩
  refine ⟨_, rfl, a, xs, rfl, ha, fun d sc H1 s1 nd da => ?_⟩
  refine ⟨(by show 5 ≤ sizeLine; decide), fun mn hmn => ?_⟩
  have d1 := da.keep (smNew1 hmn (.lst (menu5.map V.str)))
  have md : mn ≠ d := fun z => da.1.ne (by rw [← z]; exact hmn)
  have hm1 : (upd H1 mn (.lst (menu5.map V.str))) mn = some (.lst (menu5.map V.str)) := upd_same
  refine ⟨(by show 0 ≤ sizeLine; decide), fun C hC => ?_⟩
  have mC : mn ≠ C := ne_of_none hm1 hC
  have ds2 := (DrawAt.none d1).new hC (.lst [])
  have hm2 : (upd (upd H1 mn (.lst (menu5.map V.str))) C (.lst [])) mn = some (.lst (menu5.map V.str)) := by rw [upd_ne mC]; exact hm1
  have hC2 : (upd (upd H1 mn (.lst (menu5.map V.str))) C (.lst [])) C = some (.lst []) := upd_same
  refine ⟨(by show 0 ≤ sizeLine; decide), fun L hL => ?_⟩
  have mL : mn ≠ L := ne_of_none hm2 hL
  have CL : C ≠ L := ne_of_none hC2 hL
  have B0 : Bld K (upd (upd (upd H1 mn (.lst (menu5.map V.str))) C (.lst [])) L (.lst [])) d sc mn C L [] [] [] :=
    ⟨ds2.new hL _, by rw [upd_ne mL]; exact hm2, ⟨md, mC, mL, CL⟩, by rw [upd_ne CL]; exact hC2, upd_same, .nil⟩
  refine ⟨_, rfl, d, sc, 6, rfl, rfl, B0.dr.one, by decide, by decide, fun e H2 e0 e1 b2 d2 => ?_⟩
  obtain ⟨e, rfl, e4⟩ := drawn_of e0 e1
  have B2 := B0.but b2 d2.1
  refine ⟨e, rfl, by omega, by omega, ?_⟩
  have ne : ((e : Nat) : Int).toNat = e := Int.toNat_natCast e
  refine for_it (walk_range (lo := 0) (n := ((e : Nat) : Int).toNat)) (fun i σ H' => ∃ cs gs, Bld K H' d sc mn C L cs gs (gs.map lineT) ∧ gs.length = i ∧ (∀ g ∈ gs, OkC g) ∧
    ∃ v5 v6 v7 v8, σ = [some (.ref a), some (.ref d), some (.ref mn), some (.ref C), some (.ref L), v5, v6, v7, v8, none, none, none, none, none, none, none]) ⟨[], [], B2, rfl, by simp, _, _, _, _, rfl⟩ (fun _ _ _ _ _ => trivial) ?_ ?_
  · rintro i x σ H3' H3 hi ⟨cs, gs, B, lg, okg, v5, v6, v7, v8, rfl⟩ ⟨rfl, rfl⟩
    have i5 : i < 6 := by omega
    refine fun G hG => ⟨_, rfl, d, sc, 4, rfl, rfl, (B.sm (smNew1 hG (.dK []))).dr.one, by decide, by decide, fun f H4 f0 f1 b4 d4 => ?_⟩
    obtain ⟨f, rfl, f4⟩ := drawn_of (n := 4) f0 f1
    have nf : ((f : Nat) : Int).toNat = f := Int.toNat_natCast f
    have Gd : G ≠ d := fun z => B.dr.hd.ne (by rw [← z]; exact hG)
    have hG4 : H4 G = some (.dK (mK [])) := b4.get Gd upd_same
    have bt4 : But d H3 H4 := (but_sm (smNew1 hG _)).trans b4
    refine ⟨f, rfl, by omega, by omega, ?_⟩
    refine for_it (walk_range (lo := 0) (n := ((f : Nat) : Int).toNat)) (fun j σ H' => But d H3 H' ∧ Hd4 H' d sc ∧ (∃ m, H' G = some (.dK (mK m)) ∧ okM m ∧ m.length ≤ j) ∧
      ∃ v5 v7, σ = [some (.ref a), some (.ref d), some (.ref mn), some (.ref C), some (.ref L), v5, some (.ref G), v7, v8, none, none, none, none, none, none, none]) ⟨bt4, d4.1, ⟨[], hG4, ⟨by simp, by simp⟩, Nat.le_refl _⟩, _, _, rfl⟩ (fun _ _ _ _ _ => trivial) ?_ ?_
    · rintro j x σ H5' H5 hj ⟨b5, hd5, ⟨m, hm, okm, lm⟩, v5, v7, rfl⟩ ⟨rfl, rfl⟩
      have B5 := B.but b5 hd5
      refine ⟨_, rfl, _, rfl, (by show 6 ≤ sizeLine; decide), fun vl hvl => ?_⟩
      have s5 := smNew1 hvl (.lst (vals6.map V.int))
      have hvl5 : (upd H5 vl (.lst (vals6.map V.int))) vl = some (.lst (vals6.map V.int)) := upd_same
      have vd : vl ≠ d := fun z => hd5.ne (by rw [← z]; exact hvl)
      refine ⟨_, rfl, d, sc, 6, rfl, rfl, (B5.sm s5).dr.one, by decide, by decide, fun g H6 g0 g1 b6 d6 => ?_⟩
      obtain ⟨g, rfl, g6⟩ := drawn_of (n := 6) g0 g1
      have hvl6 := b6.get vd hvl5
      have gl : g < vals6.length := g6
      refine ⟨vl, _, g, .int vals6[g], rfl, rfl, SqL.of hvl6, atI_nat (by rw [List.getElem?_map, List.getElem?_eq_getElem gl]; rfl), ?_⟩
      have b56 : But d H5 H6 := (but_sm s5).trans b6
      have B6 := B5.but b56 d6.1
      refine ⟨_, rfl, _, rfl, _, rfl, d, sc, 5, rfl, rfl, d6, by decide, by decide, fun k H7 k0 k1 b7 d7 => ?_⟩
      obtain ⟨k, rfl, k5⟩ := drawn_of (n := 5) k0 k1
      have kl : k < menu5.length := k5
      have B7 := B6.but b7 d7.1
      have hm7 := b7.get Gd (b56.get Gd hm)
      have bt7 : But d H3 H7 := b5.trans (b56.trans b7)
      have l1000 : (mK m).length ≤ 1000 := by rw [show (mK m).length = m.length from List.length_map ..]; omega
      refine ⟨mn, _, k, .str menu5[k], rfl, rfl, SqL.of B7.hM, atI_nat (by rw [List.getElem?_map, List.getElem?_eq_getElem kl]; rfl), G, _, rfl, DPut.k (k := .inr menu5[k]) (v := .int vals6[g]) hm7 (small1000 l1000), ?_⟩
      refine ⟨but_out bt7 hG _, d7.1.off Gd _, ⟨wPut m menu5[k] vals6[g], by rw [upd_same, putK_w], okM_put okm (menu5_ok _ (List.getElem_mem kl)) (vals6_ok _ (List.getElem_mem gl)), ?_⟩, _, _, rfl⟩
      have wl := congrArg List.length (wKeys_put m menu5[k] vals6[g])
      unfold wKeys at wl
      split at wl
      · rw [List.length_map, List.length_map] at wl; omega
      · rw [List.length_append, List.length_map, List.length_map] at wl
        show (wPut m menu5[k] vals6[g]).length ≤ j + 1
        rw [wl]
        show m.length + 1 ≤ j + 1
        omega
    rintro σ H5 ⟨b5, hd5, ⟨m, hm, okm, lm⟩, v5, v7, rfl⟩
    have l3 : m.length ≤ 3 := by omega
    have B5 := B.but b5 hd5
    have lcs := B5.ch.len
    refine ⟨_, rfl, .inl ⟨rfl, _, SqL.of B5.hC⟩, ?_⟩
    refine ⟨_, rfl, fun x dx2 hx hdx hnx => ?_⟩
    have mI := mk_in (C := He.ga K "Change") hx hdx hnx
    refine ⟨x, dx2, G, m, rfl, rfl, upd_same, mI _ _ hm, okm, Nat.zero_le _, by omega, fun H6 m2 off mp pm => ⟨rfl, ?_⟩⟩
    have s6 : Same H5 H6 := mk_sm hx hdx off
    have B6 := B5.sm s6
    have hG6 := s6 _ _ hm
    have ok2 : okM m2 := okM_perm okm pm
    obtain ⟨_, _, _, _, _, st2⟩ := id mp
    have l2 : m2.length ≤ 3 := by rw [pm.length_eq]; exact l3
    have cx : ChgAt K H6 x m2 := ⟨mp, by omega⟩
    refine ⟨C, cs, _, rfl, rfl, B6.hC, small1000 (by omega), ?_⟩
    have md := B6.md
    have GC : G ≠ C := fun z => by rw [z, B6.hC] at hG6; cases hG6
    have GL : G ≠ L := fun z => by rw [z, B6.hL] at hG6; cases hG6
    have B7 : Bld K (upd H6 C (.lst (cs ++ [.ref x]))) d sc mn C L (cs ++ [.ref x]) (gs ++ [m2]) (gs.map lineT) :=
      ⟨B6.dr.upd _ (by simp), by rw [upd_ne md.2.1]; exact B6.hM, md, upd_same, by rw [upd_ne md.2.2.2.symm]; exact B6.hL, paired_app (B6.ch.lst B6.hC) (.cons ⟨x, rfl, cx.lst B6.hC⟩ .nil)⟩
    have hG7 : (upd H6 C (.lst (cs ++ [.ref x]))) G = some (.dK (mK m)) := by rw [upd_ne GC]; exact hG6
    generalize upd H6 C (.lst (cs ++ [.ref x])) = H7 at B7 hG7 ⊢
    have lmk : (mK m).length = m.length := List.length_map ..
    refine ⟨_, rfl, G, mK m, m.map (·.1), rfl, .of hG7, by unfold mK; rw [List.map_map, List.map_map]; rfl, by rw [List.length_map]; omega, fun ys p hperm hsort hp => ?_⟩
    refine ⟨p, rfl, ⟨_, SqL.of upd_same⟩, fun D nD => ?_⟩
    have s8 := smNew1 hp (.lst (ys.map V.str))
    have ly : ys.length = m.length := by rw [hperm.length_eq, List.length_map]
    have epk : pick m ys = m2 := sort_one ((pick_perm okm.2 hperm).trans pm.symm) ok2.2 st2 (by unfold wKeys; rw [pick_keys]; exact hsort)
    have lpk : (pick m ys).length = ys.length := List.length_map ..
    refine lc_opt walk_list (fun (z : Str) y _ => y = .str z) (fun i => ((pick m ys)[i]?).map wordT) nD (small1000 (by rw [List.length_map]; omega)) (fun H' e => e.seq (SqL.of upd_same)) (fun _ _ _ _ h _ => h) (fun _ _ _ _ _ h _ => h) ?_ ?_
    · rintro i2 x2 H8 H9 N hi2 e8 ⟨rfl, hx2⟩ hk2 _
      rw [List.getElem?_map] at hx2
      obtain ⟨k, hk, rfl⟩ := Option.map_eq_some_iff.mp hx2
      obtain ⟨q1, hq1, rfl⟩ := List.mem_map.mp (hperm.mem_iff.mp (List.mem_of_getElem? hk))
      have hpk : (pick m ys)[i2]? = some q1 := by
        unfold pick
        rw [List.getElem?_map, hk]
        show some (q1.1, ((m.find? fun q => decide (q.1 = q1.1)).map (·.2)).getD 0) = some q1
        rw [find_own okm.2 q1 hq1]
      have wl := wordT_len (okm.1 q1 hq1).1 (okm.1 q1 hq1).2
      have l1 : (q1.1 ++ ("=" : Str)).length ≤ (wordT q1).length := by
        unfold wordT
        rw [Str.length_append (q1.1 ++ "=")]
        omega
      refine ⟨rfl, yesI ?_⟩
      refine ⟨_, rfl, _, _, rfl, rfl, by rw [← Str.length_append]; exact Nat.le_of_lt (small1000 (by omega)), ?_⟩
      refine ⟨_, rfl, _, rfl, G, .int q1.2, rfl, .inl ⟨mK m, .inr q1.1, .of (e8 _ _ (s8 _ _ hG7)), rfl, (valV_mK okm.2 q1 hq1).symm⟩, q1.2, rfl, log_small (okm.1 q1 hq1).2, _, _, rfl, rfl, by rw [← Str.length_append]; exact Nat.le_of_lt (small1000 (by show (wordT q1).length ≤ 1000; omega)), ?_⟩
      exact hk2 _ _ (wordT q1) (by rw [hpk]; rfl) (Same.refl _) rfl
    intro H8 ys2 e8 hD8 hp8
    rw [List.length_map, ← lpk, map_at, epk] at hp8
    have hys : ys2 = (m2.map wordT).map V.str := paired_eq hp8
    have s78 : Same H7 H8 := s8.trans e8
    have B8 := B7.sm s78
    have hG8 := s78 _ _ hG7
    refine ⟨_, rfl, .inl ⟨rfl, _, SqL.of B8.hL⟩, ?_⟩
    have sm2 := sum_le (f := fun z => z.length) (b := 10) (l := m2.map wordT) fun z hz => by
      obtain ⟨q, hq, rfl⟩ := List.mem_map.mp hz
      exact wordT_len (ok2.1 q hq).1 (ok2.1 q hq).2
    rw [List.length_map] at sm2
    refine ⟨⟨_, rfl⟩, _, rfl, " ", D, m2.map wordT, rfl, rfl, .inl (SqL.of (by rw [hD8, hys])), by rw [blank_one, List.length_map]; omega, (by show 2 ≤ sizeLine; decide), fun W hW => ?_⟩
    have s9 := smNew1 hW (.lst [.str (Txt.join " " (m2.map wordT)), .str "-"])
    have B9 := B8.sm s9
    have hG9 := s9 _ _ hG8
    refine ⟨_, rfl, G, _, rfl, hG9, rfl, .inr ⟨_, rfl, ?_⟩⟩
    have idx : rIxL K (.ref W) (.int (if decide (V.int ((mK m).length : Nat) = V.int 0) = true then 1 else 0)) (upd H8 W (.lst [.str (Txt.join " " (m2.map wordT)), .str "-"])) fun v H' => v = .str (lineT m2) ∧ H' = upd H8 W (.lst [.str (Txt.join " " (m2.map wordT)), .str "-"]) := by
      by_cases z : m2 = []
      · have ml : m.length = 0 := by rw [← pm.length_eq, z]; rfl
        rw [if_pos (by rw [lmk, ml]; decide)]
        exact ⟨W, _, 1, _, rfl, rfl, SqL.of upd_same, at1, by rw [z]; rfl, rfl⟩
      · have ml : m.length ≠ 0 := by rw [← pm.length_eq]; exact fun h => z (List.length_eq_zero_iff.mp h)
        rw [if_neg (by
          rw [lmk]
          intro h
          have := of_decide_eq_true h
          injection this with this
          omega)]
        refine ⟨W, _, 0, _, rfl, rfl, SqL.of upd_same, at0, ?_, rfl⟩
        rw [lineT_some (by cases m2 with | nil => exact absurd rfl z | cons _ _ => rfl)]
    obtain ⟨W', xs', i', v', e1, e2, hW', hv', ev, eH⟩ := idx
    refine ⟨W', xs', i', v', e1, e2, hW', hv', ?_⟩
    subst ev
    refine ⟨L, _, _, rfl, rfl, B9.hL, small1000 (by rw [List.length_map, List.length_map]; omega), ?_⟩
    have md := B9.md
    refine ⟨cs ++ [.ref x], gs ++ [m2], ⟨B9.dr.upd _ (by simp), by rw [upd_ne md.2.2.1]; exact B9.hM, md, by rw [upd_ne md.2.2.2]; exact B9.hC, ?_, B9.ch.lst B9.hL⟩, by rw [List.length_append, lg]; rfl, ?_, _, _, _, _, rfl⟩
    · rw [upd_same, List.map_append, List.map_append]
      rfl
    · intro g hg
      rcases List.mem_append.mp hg with h | h
      · exact okg g h
      · rw [List.mem_singleton] at h
        rw [h]
        exact ⟨ok2, st2, l2⟩
  rintro σ H3 ⟨cs, gs, B, lg, okg, v5, v6, v7, v8, rfl⟩
  have g5 : gs.length ≤ 5 := by omega
  obtain ⟨fr, mp⟩ := own_lines okg
  have ls0 : lensum (gs.map lineT) ≤ 165 := by
    have := sum_le (f := fun z => z.length) (b := 33) (l := gs.map lineT) fun z hz => by
      obtain ⟨g, hg, rfl⟩ := List.mem_map.mp hz
      exact lineT_len3 (okg g hg).1 (okg g hg).2.2
    rw [List.length_map] at this
    unfold lensum
    omega
  have lt0 : (textC gs).length ≤ 900 := by
    have := joinN_len (gs.map lineT)
    rw [List.length_map] at this
    unfold textC
    omega
  refine ⟨_, rfl, C, cs, gs, rfl, B.hC, B.ch, by omega, fun H4 s4 => ?_⟩
  have B4 := B.sm s4
  have ls0' := ls0
  unfold lensum at ls0'
  have n1 : ("\n" : Str).length = 1 := by decide +kernel
  refine ⟨_, rfl, ⟨_, rfl⟩, _, rfl, "\n", L, gs.map lineT, rfl, rfl, .inl (SqL.of B4.hL), by rw [n1, List.length_map]; omega, rfl, _, rfl, ?_⟩
  refine ifF (by rw [Bool.not_eq_false', decide_eq_true_eq]; rfl) ?_
  refine ⟨_, rfl, textC gs, rfl, lt0, fun gs2 hgs2 p cs2 H5 s5 np hp hc2 => ?_, fun k hk => by
    rw [badL_none (own_text okg)] at hk
    cases hk⟩
  have egs : gs2 = gs := map_some_inj (hgs2.symm.trans (own_text okg))
  subst egs
  have B5 := B4.sm s5
  obtain ⟨as, eas, pas⟩ := paired_refs hc2
  obtain ⟨bs, ebs, pbs⟩ := paired_refs B5.ch
  refine ⟨_, rfl, p, C, as, bs, rfl, rfl, by rw [hp, eas], by rw [B5.hC, ebs], by rw [pas.length, pbs.length], fun i a b ha hb => ?_, _, rfl, iteF ?_⟩
  · obtain ⟨g, hg, ca⟩ := paired_at pas ha
    obtain ⟨g', hg', cb⟩ := paired_at pbs hb
    rw [hg] at hg'
    cases hg'
    obtain ⟨⟨dx, p1, h1, _⟩, _⟩ := id ca
    obtain ⟨⟨dy, p2, h2, _⟩, _⟩ := id cb
    exact ⟨dx, dy, _, _, h1, h2, fun Q q => ⟨a, b, g, rfl, rfl, ca, cb, q⟩⟩
  refine ⟨_, rfl, d, sc, 3, rfl, rfl, B5.dr.one, by decide, by decide, fun f H6 f0 f1 b6 d6 => ?_⟩
  obtain ⟨f, rfl, f3⟩ := drawn_of (n := 3) f0 f1
  have nf : ((f : Nat) : Int).toNat = f := Int.toNat_natCast f
  have B6 := B5.but b6 d6.1
  refine ⟨f, rfl, by omega, by omega, ?_⟩
  refine for_it (walk_range (lo := 0) (n := ((f : Nat) : Int).toNat)) (fun i σ H' => ∃ zs, Bld K H' d sc mn C L cs gs2 zs ∧ freeL zs ∧ zs.length ≤ 5 ∧ lensum zs + 10 ≤ 175 * 2 ^ i ∧
    ∃ v5 v10, σ = [some (.ref a), some (.ref d), some (.ref mn), some (.ref C), some (.ref L), v5, v6, v7, v8, some (.str (textC gs2)), v10, none, none, none, none, none]) ⟨_, B6, fr, by rw [List.length_map]; exact g5, by omega, _, _, rfl⟩ (fun _ _ _ _ _ => trivial) ?_ ?_
  · rintro i x σ H7' H7 hi ⟨zs, B7, f7, z5, lz, v5, v10, rfl⟩ ⟨rfl, rfl⟩
    have lmz : (zs.map V.str).length = zs.length := List.length_map ..
    have i2 : i < 2 := by omega
    have pw : 175 * 2 ^ i ≤ 350 := by
      have : i = 0 ∨ i = 1 := by omega
      rcases this with rfl | rfl <;> decide
    refine ⟨_, rfl, L, _, rfl, .inl (SqL.of B7.hL), _, _, rfl, rfl, _, rfl, ?_⟩
    rw [lmz]
    by_cases zp : (0 : Int) < (zs.length : Nat)
    case neg =>
      rw [decide_eq_false zp]
      refine iteF ⟨zs, B7, f7, z5, ?_, _, _, rfl⟩
      rw [Nat.pow_succ]
      omega
    rw [decide_eq_true zp]
    refine iteT ?_
    refine ⟨_, rfl, _, rfl, L, _, rfl, .inl (SqL.of B7.hL), d, sc, _, rfl, rfl, B7.dr.one, by rw [lmz]; exact zp, by rw [lmz]; omega, fun r H8 r0 r1 b8 d8 => ?_⟩
    rw [lmz] at r1
    obtain ⟨r, rfl, rz⟩ := drawn_of r0 r1
    have B8 := B7.but b8 d8.1
    have hr8 : zs[r]? = some zs[r] := List.getElem?_eq_getElem rz
    have lr := lensum_mem (List.getElem_mem rz)
    refine ⟨_, rfl, _, rfl, _, rfl, L, _, r, .str zs[r], rfl, rfl, SqL.of B8.hL, atI_nat (by rw [List.getElem?_map, hr8]; rfl), d, sc, zs[r], rfl, rfl, d8, f7 _ (List.getElem_mem rz), by omega, fun z2 H9 nz2 lz2 b9 d9 => ?_⟩
    have B9 := B8.but b9 d9.1
    have md := B9.md
    refine ⟨_, rfl, _, rfl, L, _, r, r, rfl, rfl, B9.hL, ixN_n (by rw [lmz]; exact rz), zs.set r z2, ⟨B9.dr.upd _ (by simp), by rw [upd_ne md.2.2.1]; exact B9.hM, md, by rw [upd_ne md.2.2.2]; exact B9.hC, by rw [upd_same, List.map_set], B9.ch.lst B9.hL⟩, fun w hw => ?_, by rw [List.length_set]; exact z5, ?_, _, _, rfl⟩
    · rcases List.mem_or_eq_of_mem_set hw with h2 | rfl
      · exact f7 w h2
      · exact nz2
    · have := lensum_set_eq (w := z2) hr8
      rw [Nat.pow_succ]
      omega
  rintro σ H7 ⟨zs, B7, f7, z5, lz, v5, v10, rfl⟩
  have lz690 : lensum zs ≤ 690 := by
    have : f = 0 ∨ f = 1 ∨ f = 2 := by omega
    rw [nf] at lz
    rcases this with rfl | rfl | rfl <;> omega
  refine ⟨fun σ H' => ∃ zs, Bld K H' d sc mn C L cs gs2 zs ∧ freeL zs ∧ zs.length ≤ 6 ∧ lensum zs ≤ 690 ∧
    σ = [some (.ref a), some (.ref d), some (.ref mn), some (.ref C), some (.ref L), v5, v6, v7, v8, some (.str (textC gs2)), v10, none, none, none, none, none], ?_, ?_⟩
  · refine ⟨_, rfl, d, sc, 6, rfl, rfl, B7.dr.one, by decide, by decide, fun t H8 t0 t1 b8 d8 => ?_⟩
    have B8 := B7.but b8 d8.1
    refine ⟨rfl, _, rfl, ?_⟩
    refine ifB (fun _ => ?_) (fun _ => ?_)
    · have md := B8.md
      refine ⟨_, rfl, .inl ⟨rfl, _, SqL.of B8.hL⟩, L, _, _, rfl, rfl, B8.hL, small1000 (by rw [List.length_map]; omega), zs ++ ([""] : List Str), ⟨B8.dr.upd _ (by simp), by rw [upd_ne md.2.2.1]; exact B8.hM, md, by rw [upd_ne md.2.2.2]; exact B8.hC, by rw [upd_same, List.map_append]; rfl, B8.ch.lst B8.hL⟩, fun w hw => ?_, by rw [List.length_append]; show zs.length + 1 ≤ 6; omega, ?_, rfl⟩
      · rcases List.mem_append.mp hw with h | h
        · exact f7 w h
        · rw [List.mem_singleton] at h
          subst h
          decide +kernel
      · rw [lensum_app]
        show lensum zs + lensum ([""] : List Str) ≤ 690
        have : lensum ([""] : List Str) = 0 := by decide +kernel
        omega
    · exact ⟨zs, B8, f7, by omega, lz690, rfl⟩
  clear lz690 lz z5 f7 B7
  rintro σ H8 ⟨zs, B8, f8, z6, lz, rfl⟩
  have lmz : (zs.map V.str).length = zs.length := List.length_map ..
  have lz' := lz
  unfold lensum at lz'
  refine ⟨⟨_, rfl⟩, _, rfl, "\n", L, zs, rfl, rfl, .inl (SqL.of B8.hL), by rw [n1]; omega, ?_⟩
  have ltx : (Txt.join "\n" zs).length ≤ 900 := by
    have := joinN_len zs
    omega
  obtain ⟨tx, etx⟩ : ∃ tx, tx = Txt.join "\n" zs := ⟨_, rfl⟩
  rw [← etx] at ltx ⊢
  refine ⟨_, rfl, L, _, rfl, .inl (SqL.of B8.hL), _, rfl, by omega, by rw [lmz]; omega, ?_⟩
  have nz : (((zs.map V.str).length : Nat) : Int).toNat = zs.length := by rw [Int.toNat_natCast, lmz]
  refine for_it (walk_range (lo := 0) (n := (((zs.map V.str).length : Nat) : Int).toNat)) (fun i σ H' => Same H8 H' ∧ ∃ v5, σ = [some (.ref a), some (.ref d), some (.ref mn), some (.ref C), some (.ref L), v5, v6, v7, v8, some (.str tx), v10, some (.int (dueN (badL (zs.take i)))), none, none, none, none]) ⟨Same.refl _, _, rfl⟩ (fun _ _ _ _ _ => trivial) ?_ ?_
  · rintro i x σ H9' H9 hi ⟨s9, v5, rfl⟩ ⟨rfl, rfl⟩
    have iz : i < zs.length := by omega
    have hz : zs[i]? = some zs[i] := List.getElem?_eq_getElem iz
    have tk : zs.take (i + 1) = zs.take i ++ [zs[i]] := by rw [List.take_add_one, hz]; rfl
    have tl : (zs.take i).length = i := by rw [List.length_take]; omega
    have sn := badL_snoc (zs.take i) zs[i]
    rw [← tk, tl] at sn
    refine ⟨_, rfl, rfl, _, rfl, ?_⟩
    cases hb : badL (zs.take i) with
    | some k =>
      rw [hb] at sn
      have sn : badL (zs.take (i + 1)) = some k := sn
      rw [decide_eq_false (fun h => by
        injection h with h
        have : ((k + 1 : Nat) : Int) = 0 := h
        omega)]
      exact iteF (iteF ⟨s9, _, by rw [sn]; rfl⟩)
    | none =>
    rw [hb] at sn
    have sn : badL (zs.take (i + 1)) = if (rdL zs[i]).isSome = true then none else some i := sn
    refine ifT (by decide) ?_
    have B9 := B8.sm s9
    have li := lensum_mem (List.getElem_mem iz)
    refine ⟨_, rfl, _, rfl, L, _, _, .str zs[i], rfl, rfl, SqL.of B9.hL, atI_nat0 (by rw [List.getElem?_map, hz]; rfl), zs[i], rfl, by omega, fun H10 s10 => ⟨_, rfl, ?_⟩⟩
    cases hg : (rdL zs[i]).isSome with
    | true =>
      rw [hg, if_pos rfl] at sn
      exact iteF ⟨s9.trans s10, _, by rw [sn]; rfl⟩
    | false =>
      rw [hg, if_neg Bool.false_ne_true] at sn
      refine iteT ⟨_, rfl, _, _, rfl, rfl, s9.trans s10, some (.int (0 + (i : Int))), ?_⟩
      rw [sn]
      show _ = [_, _, _, _, _, _, _, _, _, _, _, some (V.int ((i + 1 : Nat) : Int)), _, _, _, _]
      rw [show (((i + 1 : Nat) : Int)) = 0 + (i : Int) + 1 by omega]
      rfl
  rintro σ H9 ⟨s9, v5, rfl⟩
  rw [nz, List.take_length]
  have B9 := B8.sm s9
  refine ⟨(by show 0 ≤ sizeLine; decide), fun F nF => ?_⟩
  have s10 := smNew1 nF (.lst [])
  have B10 := B9.sm s10
  have hF : (upd H9 F (.lst [])) F = some (.lst []) := upd_same
  generalize upd H9 F (.lst []) = H10 at s10 B10 hF ⊢
  have lof : linesOf tx = if tx = "" then [] else zs := by rw [etx]; exact linesOf_text f8
  -- what stands behind the try
  refine ⟨_, rfl, tx, rfl, ltx, fun gs3 hgs p3 cs3 H11 s11 np3 hp3 hc3 => ?_, fun k hk dd H11 s11 hd => ?_⟩
  · refine ⟨_, rfl, rfl, _, rfl, ?_⟩
    refine ifB (fun c => ?_) (fun c => ?_)
    · have e0 : tx = "" := by injection of_decide_eq_true c
      rw [lof, if_pos e0] at hgs
      have g0 : gs3 = [] := by
        cases gs3 with
        | nil => rfl
        | cons _ _ => cases hgs
      subst g0
      have c0 : cs3 = [] := by
        have := hc3.len
        exact List.length_eq_zero_iff.mp this
      subst c0
      refine ⟨_, rfl, rfl, _, rfl, ifT (by decide) ?_⟩
      refine ⟨_, rfl, (by show 0 ≤ sizeLine; decide), fun z hz => ?_⟩
      refine ⟨.list [], .list [], ?_, ?_, rfl, rfl, ?_⟩
      · exact .lst (SqL.of (smNew1 hz _ _ _ hp3)) .nil
      · exact .lst (SqL.of upd_same) .nil
      · exact q _
    · have nt : tx ≠ "" := fun e => of_decide_eq_false c (by rw [e])
      rw [lof, if_neg nt] at hgs
      have bn := badL_none hgs
      refine ⟨_, rfl, _, _, rfl, rfl, _, rfl, ?_⟩
      rw [bn]
      refine ifF (by decide) ?_
      refine ⟨_, rfl, rfl, _, rfl, ifT (by decide) ?_⟩
      have l3 : gs3.length = zs.length := by
        have := congrArg List.length hgs
        rw [List.length_map, List.length_map] at this
        exact this.symm
      refine ⟨_, rfl, p3, cs3, gs3, rfl, hp3, hc3, by omega, fun H12 s12 => ⟨_, rfl, rfl, ?_⟩⟩
      have et : textC gs3 = tx := by unfold textC; rw [text_back hgs, etx]
      rw [et, decide_eq_true rfl]
      exact q _
  · refine ⟨true, xm_BadText_BadText T, ifT rfl fun a ha => ?_⟩
    refine ⟨_, rfl, rfl, rfl, dd, _, _, rfl, hd, rfl, ?_⟩
    refine ⟨_, rfl, rfl, _, rfl, ?_⟩
    refine ifB (fun c => ?_) (fun c => ?_)
    · have e0 : tx = "" := by injection of_decide_eq_true c
      rw [lof, if_pos e0] at hk
      cases hk
    · have nt : tx ≠ "" := fun e => of_decide_eq_false c (by rw [e])
      rw [lof, if_neg nt] at hk
      refine ⟨_, rfl, _, _, rfl, rfl, _, rfl, ?_⟩
      rw [hk]
      refine ifT (decide_eq_true (by show (0 : Int) < ((k + 1 : Nat) : Int); omega)) ?_
      refine ⟨_, rfl, _, rfl, rfl, ?_⟩
      show Q (.bl (decide (V.int ((k + 1 : Nat) : Int) = V.int (dueN (some k))))) H11
      rw [decide_eq_true (show V.int ((k + 1 : Nat) : Int) = V.int (dueN (some k)) from rfl)]
      exact q _
end
end RM

set_option Elab.async false
set_option linter.all false
set_option maxRecDepth 100000
set_option maxHeartbeats 0
namespace RM
open PySem PySem.Spec PyProof.Rows L2
theorem law_ok {P : Program} {w : World} {K : PySem.W.Frag} {mg : Str → Option Value} {base : Heap} {fd : FuncData} (T : Top w K mg)
    (F : FunD K "law" "law" (defArgs s_law) (defBody s_law) (defScope s_law) [] [] (He.ga K "law") fd) : FnOk P w K mg base CX0 23 (He.ga K "law") fd ["_law_script"] (spLaw K) :=
  fn_0 F sc_law (fun vs H Q E h => match vs, h with | [_], _ => rfl) (b_law T)
end RM
open PySem PySem.W PySem.Calls PyProof.Rows
theorem PySem.Challenge.cw_readmoments_k20_texts_of_changes_holds : PySem.Challenge.rw_readmoments_k20_texts_of_changes.Holds := by
  w_on; o_law
  refine HandSHeadRun.head_any (r := OpenLaw.row PySem.Challenge.rw_readmoments_k20_texts_of_changes) (q := view (OpenLaw.row PySem.Challenge.rw_readmoments_k20_texts_of_changes).prog [26]) (H := RM.hk) (ob := RM.ob) (M := 9000) (loose := RM.names)
    (d := HandSHeadRun.topDef (OpenLaw.row PySem.Challenge.rw_readmoments_k20_texts_of_changes).prog 26) (kwd := []) RM.ob_eq
    (by kernel_rfl) (fun s => by kernel_rfl) RM.run (by kernel_rfl) (by kernel_rfl) (by kernel_rfl) (by rfl) (by first | assumption | decide +kernel) (by decide +kernel) ⟨rfl, rfl, rfl, rfl, rfl, by decide +kernel⟩ ?hw ?hc
  case hw => w_witness2
  case hc =>
    refine L2.walk_ofE (l := PySem.Challenge.rw_readmoments_k20_texts_of_changes) (n := 63) (k := 23) (x := "_law_script") (CX := L2.CX0) rfl (by decide) (by kernel_rfl) ⟨rfl, by decide, by decide⟩ ?F (fun _ _ _ _ z => z)
    intro w mg fa h Y G hmg0
    have hmg : mg ("law" : PySem.Str) = some (.ref fa) := by
      have e : (HandSHeadRun.topDef (OpenLaw.row PySem.Challenge.rw_readmoments_k20_texts_of_changes).prog 26).name = ("law" : PySem.Str) := by kernel_rfl
      rw [← e]
      exact hmg0
    obtain ⟨K, KX, c⟩ := Y
    have T : RM.Top w K mg := ⟨h, KX, G, c⟩
    obtain ⟨fd, F⟩ := RM.f_law T
    have e := hmg.symm.trans (RM.g_law T)
    cases e
    have b := L2.FunD.bindsA (ps := ["_law_script"]) F fun _ _ _ _ _ _ us hl => match us, hl with | [_], _ => rfl
    exact ⟨K, fd, RM.spLaw K, KX, fun s v => b s [v] rfl, fun H a ns hl _ hS => ⟨a, ns, rfl, hS, fun _ => rfl⟩, fun base _ _ => RM.law_ok T F⟩

