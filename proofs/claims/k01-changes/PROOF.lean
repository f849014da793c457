import PyProof.Rows.All
import Wide.All
import OpenK.AllK
import Wide.FinOn
import HandS.ForMost
import HandS.Exc
import HandS.WordsExc
import HandS.TryMany
import HandS.ExcInit
import HandS.ExcField
import HandS.Defaults
import HandS.IsInst
import HandS.OwnEq
import HandS.DictComp
import HandS.SetKeys
import HandS.Walk
import HandS.Flow
import HandS.Conv
import HandS.TupAny
import HandS.Zip
import HandS.Style
import HandS.HeadHook1
import HandS.HeadHook2
import HandS.HeadHook3
import HandS.HeadHook4
import KE.GoesNew
import KE.GoesEnum
import HandS.SetBool
import HandS.SetFor
import HandS.SetTxt0
import PyProof.Rows.SortShellAny
import KE.KOpsOwn
import PyProof.InstNe
import KE.KStateDown
import HandS.Head0
import HandS.Head1
import HandS.Head2
import HandS.HeadEnd
import KE.KeyNested
import KE.KDictCopyH
import HandS.Small
import KE.KDictWalk
import PyProof.Rows.Range3
import KE.KDictList
import KE.KDictSum
import PyProof.TupleOfGen
import PySem.Challenge.RW_readmoments_k01_changes_as_values
set_option Elab.async false
set_option linter.all false
set_option maxRecDepth 100000
set_option maxHeartbeats 2000000
namespace RM
open PySem PySem.Spec PyProof.Rows L2

/-! ### calls by promise -/
section
variable (P : Program) (w : World) (K : PySem.W.Frag) (mg : Str → Option Value) (base : Heap) (CX : CXT)
/-- a def by its global name -/
def Cal (k : Nat) (x : Str) (sp : Sp) : Prop :=
  ∃ (f : Addr) (fd : FuncData) (ps : List Str), FnOk P w K mg base CX k f fd ps sp ∧ mg x = some (.ref f) ∧ PySem.W.keepIn K (.ref f) = true ∧ Binds K fd ps []
/-- the class at C: its method m -/
def Met (k : Nat) (C : Addr) (m : Str) (sp : Sp) : Prop :=
  ∃ (f : Addr) (fd : FuncData) (ps : List Str), Cls K C ∧ Meth K C m f ∧ FnOk P w K mg base CX k f fd ps sp ∧ Binds K fd ps []
/-- a class that is made by its name; sp: its __init__ -/
def Mak (k : Nat) (x : Str) (C : Addr) (sp : Sp) : Prop :=
  ∃ (f : Addr) (fd : FuncData) (ps : List Str), Mk K C f ∧ FnOk P w K mg base CX k f fd ps sp ∧ mg x = some (.ref C) ∧ Binds K fd ps []
end
section
variable {P : Program} {w : World} {K : PySem.W.Frag} {mg : Str → Option Value} {base : Heap} {CX : CXT} {k : Nat} {x m : Str} {C : Addr} {sp : Sp}
theorem Cal.mono {j : Nat} (c : Cal P w K mg base CX j x sp) (h : j ≤ k) : Cal P w K mg base CX k x sp := let ⟨f, fd, ps, F, a, b, d⟩ := c; ⟨f, fd, ps, F.mono h, a, b, d⟩
theorem Met.mono {j : Nat} (c : Met P w K mg base CX j C m sp) (h : j ≤ k) : Met P w K mg base CX k C m sp := let ⟨f, fd, ps, a, b, F, d⟩ := c; ⟨f, fd, ps, a, b, F.mono h, d⟩
theorem Mak.mono {j : Nat} (c : Mak P w K mg base CX j x C sp) (h : j ≤ k) : Mak P w K mg base CX k x C sp := let ⟨f, fd, ps, a, F, b, d⟩ := c; ⟨f, fd, ps, a, F.mono h, b, d⟩
theorem Cal.imp {sp' : Sp} (c : Cal P w K mg base CX k x sp) (h : ∀ vs H Q E, sp' vs H Q E → sp vs H Q E) : Cal P w K mg base CX k x sp' := let ⟨f, fd, ps, F, a, b, d⟩ := c; ⟨f, fd, ps, F.imp h, a, b, d⟩
theorem Met.imp {sp' : Sp} (c : Met P w K mg base CX k C m sp) (h : ∀ vs H Q E, sp' vs H Q E → sp vs H Q E) : Met P w K mg base CX k C m sp' := let ⟨f, fd, ps, a, b, F, d⟩ := c; ⟨f, fd, ps, a, b, F.imp h, d⟩
/-- nothing leaves by an error: the body's form -/
def Body0 (P : Program) (w : World) (K : PySem.W.Frag) (mg : Str → Option Value) (base : Heap) (N : List Str) (qual : Str) (st : Stmt) (f : Addr) (k : Nat) (sp : Sp) : Prop :=
  ∀ (cdv : Value) (A : Around) (outer : List Env) (s : Shared) (H : Hp) (vs : List V) (Q : VK) (E : XK), Room k (A.deeper (envOfC qual (defScope st) s.heap.objs.size f cdv)) → sp vs H Q E →
    ∃ t, PSs (cxOf CX0 P w K mg base N qual (defScope st) f cdv A outer s H E).nox (defBody st) t ∧ t { nx := fun _ H' => Q .non H', rt := Q } (start N vs) H
theorem fn_0 {qual : Str} {st : Stmt} {f : Addr} {fd : FuncData} {N ps : List Str} (F : FunD K x qual (defArgs st) (defBody st) (defScope st) [] [] f fd) (S : FnScope N ps (defScope st))
    (len : ∀ vs H Q E, sp vs H Q E → vs.length = ps.length) (h : Body0 P w K mg base N qual st f k sp) : FnOk P w K mg base CX0 (k + 1) f fd ps sp :=
  F.ok S len fun cdv A outer s H vs Q E hr hsp => let ⟨t, a, b⟩ := h cdv A outer s H vs Q E hr hsp; ⟨t, a.nox, b⟩
theorem cal_0 {st : Stmt} {f : Addr} {N ps : List Str} (F : ∃ fd, FunD K x x (defArgs st) (defBody st) (defScope st) [] [] f fd) (hm : mg x = some (.ref f)) (S : FnScope N ps (defScope st))
    (hb : ∀ (kV doc pm : Value) (an : Option Addr) (cdv ct : Value) (us : List Value), us.length = ps.length → bindArgs (PySem.W.fnOf x x (defArgs st) (defBody st) (defScope st) .none kV doc pm an cdv ct) ⟨us, []⟩ = pure (ps.zip us))
    (len : ∀ vs H Q E, sp vs H Q E → vs.length = ps.length) (h : Body0 P w K mg base N x st f k sp) : Cal P w K mg base CX0 (k + 1) x sp :=
  let ⟨fd, F⟩ := F
  ⟨f, fd, ps, fn_0 F S len h, hm, F.kp, F.bindsN hb⟩
theorem cal_never {x : Str} {st : Stmt} {f : Addr} {ps : List Str} {sp : Sp} {k : Nat} (F : ∃ fd, FunD K x x (defArgs st) (defBody st) (defScope st) [] [] f fd) (hm : mg x = some (.ref f))
    (hb : ∀ (kV doc pm : Value) (an : Option Addr) (cdv ct : Value) (us : List Value), us.length = ps.length → bindArgs (PySem.W.fnOf x x (defArgs st) (defBody st) (defScope st) .none kV doc pm an cdv ct) ⟨us, []⟩ = pure (ps.zip us))
    (no : ∀ vs H Q E, ¬ sp vs H Q E) : Cal P w K mg base CX0 k x sp :=
  let ⟨fd, F⟩ := F
  ⟨f, fd, ps, ⟨fun vs H Q E h => absurd h (no vs H Q E), fun A outer s H args us vs Q E _ _ _ _ h => absurd h (no vs H Q E)⟩, hm, F.kp, F.bindsN hb⟩
theorem met_0 {qual : Str} {st : Stmt} {f : Addr} {N ps : List Str} (F : ∃ fd, FunD K m qual (defArgs st) (defBody st) (defScope st) [] [] f fd) (c : Cls K C) (me : Meth K C m f) (S : FnScope N ps (defScope st))
    (hb : ∀ (kV doc pm : Value) (an : Option Addr) (cdv ct : Value) (us : List Value), us.length = ps.length → bindArgs (PySem.W.fnOf m qual (defArgs st) (defBody st) (defScope st) .none kV doc pm an cdv ct) ⟨us, []⟩ = pure (ps.zip us))
    (len : ∀ vs H Q E, sp vs H Q E → vs.length = ps.length) (h : Body0 P w K mg base N qual st f k sp) : Met P w K mg base CX0 (k + 1) C m sp :=
  let ⟨fd, F⟩ := F
  ⟨f, fd, ps, c, me, fn_0 F S len h, F.bindsN hb⟩
theorem mak_0 {qual : Str} {st : Stmt} {f : Addr} {N ps : List Str} (F : ∃ fd, FunD K "__init__" qual (defArgs st) (defBody st) (defScope st) [] [] f fd) (M : Mk K C f) (hm : mg x = some (.ref C)) (S : FnScope N ps (defScope st))
    (hb : ∀ (kV doc pm : Value) (an : Option Addr) (cdv ct : Value) (us : List Value), us.length = ps.length → bindArgs (PySem.W.fnOf "__init__" qual (defArgs st) (defBody st) (defScope st) .none kV doc pm an cdv ct) ⟨us, []⟩ = pure (ps.zip us))
    (len : ∀ vs H Q E, sp vs H Q E → vs.length = ps.length) (h : Body0 P w K mg base N qual st f k sp) : Mak P w K mg base CX0 (k + 1) x C sp :=
  let ⟨fd, F⟩ := F
  ⟨f, fd, ps, M, fn_0 F S len h, hm, F.bindsN hb⟩
end
section
variable {X : Cx} {CX : CXT} {k j : Nat} {C : Addr} {x m : Str} {sp : Sp} {E : XK} {p pos apos : Pos} {e o : Expr} {es : List Expr} {ta : TE} {t : TA}
theorem pc (c : Cal X.prog X.w X.K X.mg X.base CX0 k x sp) (hr : Room j X.A) (ha : PA X (e :: es) t) (hk : k ≤ j := by omega) (hg : Gl X x := by rfl)
    (hpl : (backTo pos (starEach es X.env)).any (·.1) = false := by rfl) (he : starEach (e :: es) X.env = (false, eval e X.env) :: starEach es X.env := by rfl) (hdb : (x == ("__debug__" : Str)) = false := by decide) :
    PE X (.Call (.Name x p) (e :: es) [] pos) (tCall sp [] E0 t) := by
  obtain ⟨f, fd, ps, F, hm, kp, b⟩ := c
  exact pe_call F (hr.mono hk) hg hm kp b .nil pass0 ha hdb he hpl
theorem pc0 (c : Cal X.prog X.w X.K X.mg X.base CX0 k x sp) (hr : Room j X.A) (hk : k ≤ j := by omega) (hg : Gl X x := by rfl)
    (hdb : (x == ("__debug__" : Str)) = false := by decide) :
    PE X (.Call (.Name x p) [] [] pos) (tCall sp [] E0 tNil) := by
  obtain ⟨f, fd, ps, F, hm, kp, b⟩ := c
  exact pe_call0 F (hr.mono hk) hg hm kp b .nil pass0 hdb
theorem pmk (c : Mak X.prog X.w X.K X.mg X.base CX0 k x C sp) (hr : Room j X.A) (ha : PA X (e :: es) t) (hk : k + 1 ≤ j := by omega) (hg : Gl X x := by rfl)
    (hpl : (backTo pos (starEach es X.env)).any (·.1) = false := by rfl) (he : starEach (e :: es) X.env = (false, eval e X.env) :: starEach es X.env := by rfl) (hdb : (x == ("__debug__" : Str)) = false := by decide) :
    PE X (.Call (.Name x p) (e :: es) [] pos) (tMake C sp [] E0 t) := by
  obtain ⟨f, fd, ps, M, F, hm, b⟩ := c
  exact pe_make M F (hr.mono hk) hg hm b .nil pass0 ha hdb he hpl
theorem pmt {pl : Sem Bool} (c : Met X.prog X.w X.K X.mg X.base CX0 k C m sp) (hr : Room j X.A) (he : PE X o ta) (ha : PA X (e :: es) t) (hk : k ≤ j := by omega)
    (hst : starEach (e :: es) X.env = (false, eval e X.env) :: starEach es X.env := by rfl) (hpl : (backTo pos (starEach es X.env)).any (·.1) = false := by rfl)
    (ht : eval (.Call (.Attribute o m apos) (e :: es) [] pos) X.env = (do
      let ov ← eval o X.env
      standAt apos.atName
      let (f, first) ← holding [ov] (getMethod ov m pl)
      callWith pos f first (backTo pos (starEach (e :: es) X.env)) (backToKw pos (keywordEach [] X.env))) := by rfl) :
    PE X (.Call (.Attribute o m apos) (e :: es) [] pos) (tMeth C m sp [] E0 ta t) := by
  obtain ⟨f, fd, ps, hc, hm, F, b⟩ := c
  exact pe_meth (pl := pl) he hc hm F (hr.mono hk) b .nil pass0 ha hst hpl ht
theorem pmt0 {pl : Sem Bool} (c : Met X.prog X.w X.K X.mg X.base CX0 k C m sp) (hr : Room j X.A) (he : PE X o ta) (hk : k ≤ j := by omega)
    (ht : eval (.Call (.Attribute o m apos) [] [] pos) X.env = (do
      let ov ← eval o X.env
      standAt apos.atName
      let (f, first) ← holding [ov] (getMethod ov m pl)
      callWith pos f first (backTo pos (starEach [] X.env)) (backToKw pos (keywordEach [] X.env))) := by rfl) :
    PE X (.Call (.Attribute o m apos) [] [] pos) (tMeth C m sp [] E0 ta tNil) := by
  obtain ⟨f, fd, ps, hc, hm, F, b⟩ := c
  exact pe_meth0 (pl := pl) he hc hm F (hr.mono hk) b .nil pass0 ht
/-- a module's constant, told by what mg says -/
theorem pgl {v : V} {u : Value} (hm : X.mg x = some u) (r : RelV v u) (hg : Gl X x := by rfl) (hd : (x == ("__debug__" : Str)) = false := by decide) : PE X (.Name x p) (tC v) := pe_glob hg hm r hd
theorem pglR {a : Addr} (hm : X.mg x = some (.ref a)) (hg : Gl X x := by rfl) (hd : (x == ("__debug__" : Str)) = false := by decide) : PE X (.Name x p) (tC (.ref a)) := pe_glob hg hm rfl hd
theorem pglI {i : Int} (hm : ∃ t, X.mg x = some (.int i t)) (hg : Gl X x := by rfl) (hd : (x == ("__debug__" : Str)) = false := by decide) : PE X (.Name x p) (tC (.int i)) := let ⟨t, h⟩ := hm; pe_glob hg h ⟨t, rfl⟩ hd
theorem pglS {z : Str} (hm : ∃ t, X.mg x = some (.str z t)) (hg : Gl X x := by rfl) (hd : (x == ("__debug__" : Str)) = false := by decide) : PE X (.Name x p) (tC (.str z)) := let ⟨t, h⟩ := hm; pe_glob hg h ⟨t, rfl⟩ hd
/-- a built-in class as a value -/
theorem pty {n : String} (hm : X.mg x = none) (hv : bootBuiltins x = some (.type n)) (hg : Gl X x := by rfl) (hn : x ≠ "__name__" := by decide) (hd : (x == ("__debug__" : Str)) = false := by decide) : PE X (.Name x p) (tC (.ty n)) := pe_bltn hg hm hv rfl hn hd
/-- a built-in function, a built-in class, called -/
theorem pcb {id : String} {r : List V → Hp → VK → Prop} (hm : X.mg x = none) (hc : CallR X (.builtin id) r) (hv : bootBuiltins x = some (.builtin id)) (ha : PA X (e :: es) t) (hg : Gl X x := by rfl) (hn : x ≠ "__name__" := by decide) (hdb : (x == ("__debug__" : Str)) = false := by decide)
    (he : starEach (e :: es) X.env = (false, eval e X.env) :: starEach es X.env := by rfl) (hpl : (backTo pos (starEach es X.env)).any (·.1) = false := by rfl) : PE X (.Call (.Name x p) (e :: es) [] pos) (tCB r t) := pe_callB hc hg hm hv ha hn hdb he hpl
theorem pct {T : String} {r : List V → Hp → VK → Prop} (hm : X.mg x = none) (hc : CallR X (.type T) r) (hv : bootBuiltins x = some (.type T)) (ha : PA X (e :: es) t) (hg : Gl X x := by rfl) (hn : x ≠ "__name__" := by decide) (hdb : (x == ("__debug__" : Str)) = false := by decide)
    (he : starEach (e :: es) X.env = (false, eval e X.env) :: starEach es X.env := by rfl) (hpl : (backTo pos (starEach es X.env)).any (·.1) = false := by rfl) : PE X (.Call (.Name x p) (e :: es) [] pos) (tCB r t) := pe_callTy hc hg hm hv ha hn hdb he hpl
end
/-! ### the rules whose readings name the written part: K told apart (for a comprehension's block) -/
section
variable {X : Cx} {K : PySem.W.Frag} {e o : Expr} {es : List Expr} {ta : TE} {t : TA} {pos : Pos}
theorem pg_tup' {k : Nat} {t : TGs} {n : Nat} (hK : X.K = K) (hc : X.calm = true) (h : PGs X es t)
    (hn : (assignEach es X.env).length = n) (hst : (assignEach es X.env).findIdx? (·.1) = none) : PG X (.Tuple es k pos) (gTup K n t) := by
  subst hK
  exact pg_tup hc h hn hst
theorem ix_tup' (hK : X.K = K) : IxR X (rIxT K) := by subst hK; exact ix_tup
theorem ix_list' (hK : X.K = K) : IxR X (rIxL K) := by subst hK; exact ix_list
theorem call_isi' (hK : X.K = K) : CallR X (.builtin "isinstance") (rIsi K) := by subst hK; exact call_isi
theorem call_isiT' (hK : X.K = K) : CallR X (.builtin "isinstance") (rIsiT K) := by subst hK; exact call_isiT
theorem call_len_seq' (hK : X.K = K) : CallR X (.builtin "len") (fun xs H Q => ∃ p ys, xs = [.ref p] ∧ (SqL K H p ys ∨ SqT K H p ys) ∧ Q (.int ys.length) H) := by subst hK; exact call_len_seq
theorem ix_kdict' {w : World} (hK : X.K = K) (hw : X.w = w) : IxR X (rIxD K w) := by subst hK hw; exact ix_kdict
theorem pe_fld' {f : Str} (hK : X.K = K) (he : PE X e ta) (hb : attributeBase e f X.env (eval e X.env) = eval e X.env) : PE X (.Attribute e f pos) (tFld K ta f) := by subst hK; exact pe_fld he hb
end
/-! ### places -/
theorem at0 {v : V} {xs : List V} : atI (v :: xs) 0 = some v := atI_nat (j := 0) rfl
theorem at1 {a v : V} {xs : List V} : atI (a :: v :: xs) 1 = some v := atI_nat (j := 1) rfl
theorem at2 {a b v : V} {xs : List V} : atI (a :: b :: v :: xs) 2 = some v := atI_nat (j := 2) rfl
theorem at3 {a b c v : V} {xs : List V} : atI (a :: b :: c :: v :: xs) 3 = some v := atI_nat (j := 3) rfl
theorem at4 {a b c d v : V} {xs : List V} : atI (a :: b :: c :: d :: v :: xs) 4 = some v := atI_nat (j := 4) rfl
theorem yesI {σ : L2.St} {H : Hp} {X Y : Hp → Prop} (h : X H) : tYes σ H (fun b H3 => if b = true then X H3 else Y H3) := by
  show if true = true then X H else Y H
  rw [if_pos rfl]
  exact h
/-! ### ifs -/
theorem ifT {c : Bool} {A B : Prop} (hc : c = true) (h : A) : if c = true then A else B := by
  rw [if_pos hc]
  exact h
theorem ifF {c : Bool} {A B : Prop} (hc : c = false) (h : B) : if c = true then A else B := by
  rw [hc, if_neg Bool.false_ne_true]
  exact h
theorem qT {Q : VK} {c : Bool} {H : Hp} (h : c = true) (q : Q (.bl true) H) : Q (.bl c) H := by rw [h]; exact q
theorem qF {Q : VK} {c : Bool} {H : Hp} (h : c = false) (q : Q (.bl false) H) : Q (.bl c) H := by rw [h]; exact q
theorem ifB {c : Bool} {A B : Prop} (h1 : c = true → A) (h2 : c = false → B) : if c = true then A else B := by
  cases c with
  | true => exact ifT rfl (h1 rfl)
  | false => exact ifF rfl (h2 rfl)
/-! ### what a head tells beside the listed facts -/
/-- an own class whose instances isinstance reads -/
def insB (K : PySem.W.Frag) (x : Str) : Bool := He.eqO (PySem.W.findIn K (.ref (He.ga K x)) "__class__") (some (some (.builtin "object.__class__"))) &&
  (He.eqO (PySem.W.specialIn K (.builtin "object.__class__") "__get__") (some (some (.builtin "getset_descriptor.__get__"))) && (decide (PySem.W.takesIn K (.builtin "object.__class__") = some true) &&
    decide (PySem.W.mroIn K (He.ga K x) (.type "object") = some true)))
theorem insB_ty {K : PySem.W.Frag} {H : Hp} {x : Str} (h : insB K x = true) (cl : Cls K (He.ga K x)) {a dx : Addr} {fs : List (Str × V)} (e : H a = some (.ins (He.ga K x) dx fs)) : TyOf K H (.ref a) (.ref (He.ga K x)) := by
  obtain ⟨h1, h⟩ := He.ba h
  obtain ⟨h2, h⟩ := He.ba h
  obtain ⟨h3, h4⟩ := He.ba h
  exact .ins e cl (He.eqO_ok h1) (He.eqO_ok h2) (of_decide_eq_true h3) (of_decide_eq_true h4)
/-- isinstance between two own classes -/
def kitC (K : PySem.W.Frag) (x y : Str) (b : Bool) : Bool := decide (PySem.W.kitOne K (.ref (He.ga K x)) (.ref (He.ga K y)) = some b)
theorem kitC_ok {K : PySem.W.Frag} {x y : Str} {b : Bool} (h : kitC K x y b = true) : PySem.W.kitOne K (.ref (He.ga K x)) (.ref (He.ga K y)) = some b := of_decide_eq_true h
/-- a special method of an own class is its def -/
def spcB (K : PySem.W.Frag) (x m : Str) : Bool := He.eqO (PySem.W.findIn K (.ref (He.ga K x)) m) (some (some (.ref (He.ma K (He.ga K x) m)))) && PySem.W.isFn K (.ref (He.ma K (He.ga K x) m))
theorem spcB_ok {K : PySem.W.Frag} {x m : Str} (h : spcB K x m = true) : PySem.W.findIn K (.ref (He.ga K x)) m = some (some (.ref (He.ma K (He.ga K x) m))) ∧ PySem.W.isFn K (.ref (He.ma K (He.ga K x) m)) = true :=
  let ⟨a, b⟩ := He.ba h; ⟨He.eqO_ok a, b⟩
/-! ### isinstance -/
theorem isi_ty {K : PySem.W.Frag} {H : Hp} {Q : VK} {x : V} {t n : String} {b : Bool} (ty : TyX K H x (.type t)) (q : Q (.bl b) H) (e : kitB t n = some b := by decide +kernel) : rIsi K [x, .ty n] H Q :=
  ⟨x, .ty n, .type t, .type n, b, rfl, .ty n, ty, kit_ty e, q⟩
/-! ### a statement told by what holds behind it -/
def tMid (t : TS) : TS := fun D σ H => ∃ M : L2.St → Hp → Prop, t { D with nx := M } σ H ∧ ∀ σ' H', M σ' H' → D.nx σ' H'
theorem ps_mid {X : Cx} {st : Stmt} {t : TS} (h : PS X st t) : PS X st (tMid t) := by
  constructor
  rintro pins s σ H D I ⟨M, a, b⟩
  refine wpAny_mono (h.run pins s σ H _ I a) (fun f s' z => ?_) fun _ _ z => z
  cases f with
  | next =>
    obtain ⟨σ', H', I', m⟩ := z
    exact ⟨σ', H', I', b σ' H' m⟩
  | ret v => exact z
  | brk => exact z
  | cont => exact z
end RM

set_option Elab.async false
set_option linter.all false
/-! sequences of either kind: for x in v -/
namespace RM
open PySem PySem.Spec
open PyProof.Rows
open L2
/-- what is laid behind the last address is no one's -/
theorem late {X : Cx} {pins : List (Addr × Obj)} {σ : L2.St} {H : Hp} {s : Shared} (inv : Inv X pins σ H s) : ∀ b ∈ [s.heap.objs.size], FpOk X pins H b := by
  intro b hb
  obtain rfl := List.mem_singleton.mp hb
  exact inv.fpOk (Nat.le_refl _) (inv.hok.fresh (Nat.le_refl _))
@[irreducible] def SeqG (K : PySem.W.Frag) (x : V) (H1 : Hp) (R : It → Hp → Prop) : Prop :=
  ∃ a, x = .ref a ∧ ((∃ xs, SqL K H1 a xs ∧ R (Itl K a) H1) ∨ (∃ xs, SqT K H1 a xs ∧ R (Itt K a) H1))
def iSeqA (K : PySem.W.Frag) (tl : TE) : TI := fun σ H R => tl σ H fun x H1 => SeqG K x H1 R
theorem pi_seqA {X : Cx} {tg l : Expr} {tl : TE} (hl : PE X l tl) : PI X tg l (iSeqA X.K tl) := by
  constructor
  intro pins s σ H R inv pre
  refine thn (hl.run pins s σ H _ inv pre) ?_
  rintro v s1 ⟨x, H1, inv1, rel, post⟩
  rw [show SeqG X.K x H1 R = (∃ a, x = .ref a ∧ ((∃ xs, SqL X.K H1 a xs ∧ R (Itl X.K a) H1) ∨ (∃ xs, SqT X.K H1 a xs ∧ R (Itt X.K a) H1))) by unfold SeqG; rfl] at post
  obtain ⟨a, rfl, ⟨xs, sq, r⟩ | ⟨xs, sq, r⟩⟩ := post
  · obtain rfl : v = .ref a := rel
    obtain ⟨its, _, at_, _⟩ := inv1.list sq
    exact wpAny_pyIter_list at_.isList ⟨_, _, _, _, _, rfl, inv1.kept (t' := s1.toks) fun _ _ e => Heap.get?_push_of_some _ e, turn_list a _, ⟨_, Heap.get?_push_size _ rfl, rfl, rfl⟩, late inv1, r⟩
  · obtain rfl : v = .ref a := rel
    obtain ⟨its, _, at_, _⟩ := inv1.tuple sq
    exact wpAny_pyIter_tuple (items := its.toArray) at_ ⟨_, _, _, _, _, rfl, inv1.kept (t' := s1.toks) fun _ _ e => Heap.get?_push_of_some _ e, turn_tuple a _, ⟨_, Heap.get?_push_size _ rfl, rfl, rfl⟩, late inv1, r⟩
end RM

set_option Elab.async false
set_option linter.all false
set_option maxRecDepth 100000
/-! enumerate(a tuple): how it is made -/
namespace RM
open PySem PySem.Spec
open PyProof.Rows
open L2
abbrev tupIt (a : Addr) : Obj := { cls := .type "tuple_iterator", data := .fields #[.ref a, .int 0 0] }
abbrev enOb (e : Addr) : Obj := { cls := .type "enumerate", data := .fields #[.none, .bool false, .ref e, rawInt 0, .none, .none] }
theorem made_enum (a : Addr) (its : Array Value) : Meets (Builtin.«enumerate.__new__» ⟨[.type "enumerate", .ref a], []⟩)
    fun _ R s => s.heap.IsTuple a its ∧ R (.ok (.ret (.ref (s.heap.push (tupIt a)).objs.size))) { s with heap := (s.heap.push (tupIt a)).push (enOb s.heap.objs.size) } := by
  refine .of_wp ?_
  rintro prog w A R ⟨hp, g, d, tk, os⟩ ⟨tup, fin⟩
  have sub := sub_enumerate
  have go : ∀ {B : Around} {EE QQ : Value → Shared → Prop}, QQ (.ref hp.objs.size) ⟨hp.push (tupIt a), g, d, tk, os⟩ → wpAny (model prog w) B (pyIter (.ref a)) QQ EE ⟨hp, g, d, tk, os⟩ :=
    wpAny_pyIter_tuple (s := ⟨hp, g, d, tk, os⟩) tup
  wp_walk using go
  refine wpAny_stack_any fun frames => ?_
  apply wpAny_pure
  split
  case h_1 c _ _ _ _ _ =>
    by_cases e : (c == Value.type "enumerate") = true
    all_goals (simp only [e]; wp_walk using go; exact ⟨_, rfl, fin⟩)
  case h_2 => wp_walk using go; exact ⟨_, rfl, fin⟩
section
variable {P : Program} {w : World} {s : Shared} {A : Around} {E : Value → Shared → Prop}
/-- enumerate(t): the enumerate object stands one behind the tuple's iterator -/
theorem call_enumT {a : Addr} {its : Array Value} {Q : Value → Shared → Prop} (tup : s.heap.IsTuple a its)
    (then_ : ∀ hp : Heap, IsEnum hp (s.heap.objs.size + 1) s.heap.objs.size ((0 : Nat) : Int) .none → hp.get? s.heap.objs.size = some (tupIt a) → (∀ c u, s.heap.get? c = some u → hp.get? c = some u) → Q (.ref (s.heap.objs.size + 1)) { s with heap := hp }) :
    wpAny (model P w) A (call (.type "enumerate") [.ref a]) Q E s := by
  have sz : (s.heap.push (tupIt a)).objs.size = s.heap.objs.size + 1 := Heap.size_push _ _
  have at1 : ((s.heap.push (tupIt a)).push (enOb s.heap.objs.size)).get? (s.heap.objs.size + 1) = some (enOb s.heap.objs.size) := sz ▸ Heap.get?_push_size (s.heap.push (tupIt a)) (o := enOb s.heap.objs.size) rfl
  apply callType_new F.called_enumerate (by decide) (F.typeCall_enumerate_1 (.ref a)) (F.newCall_enumerate_1 (.ref a)) (fun o => F.args_object_init_2 o (.ref a)) F.entry_enumerate_new (made_enum a its)
  refine ⟨tup, ?_⟩
  show Shared.TypeIs _ _ _ ∧ Q _ _
  rw [sz]
  exact ⟨⟨_, at1, rfl⟩, then_ _ at1 (Heap.get?_push_of_some _ (Heap.get?_push_size _ rfl)) fun c u old => Heap.get?_push_of_some _ (Heap.get?_push_of_some _ old)⟩
end
theorem turn_pair {P : Program} {w : World} {K : PySem.W.Frag} {elts : List Expr} {kk : Nat} {tpos : Pos} {J : It} {fp : List Addr} {it : Addr} {tn : Nat → Heap → Prop}
    (mem : it ∈ fp) (obj : ∀ i h, tn i h → ∀ b ∈ fp, ∃ o, h.get? b = some o ∧ ∀ v, o.data ≠ .cell v)
    (keep : ∀ i h h', tn i h → (∀ b ∈ fp, ∀ o, h.get? b = some o → h'.get? b = some o) → tn i h')
    (self : ∀ (A : Around) (i : Nat) (s : Shared) (Q : Value → Shared → Prop) (E : Value → Shared → Prop), tn i s.heap → Q (.ref it) s → wpAny (model P w) A (pyIter (.ref it)) Q E s)
    (go : ∀ (X : Cx), X.prog = P → X.w = w → X.K = K → ∀ (i : Nat) (pins : List (Addr × Obj)) (s : Shared) (σ : L2.St) (H : Hp), Inv X pins σ H s → X.A.handled = none → tn i s.heap → J.go i H →
      ∃ (fp' wr : List Addr) (n : Nat) (Y : Nat → Heap → Value → Heap → Prop) (St : Nat → Heap → Prop), GoesN P w X.A (.Tuple elts kk tpos) it fp' wr n Y St ∧ i < n ∧ St i s.heap ∧ (∀ b ∈ wr, b ∈ fp) ∧
        ∀ v h', Y i s.heap v h' → St (i + 1) h' → ∃ T u1 u2 x y, v = .ref T ∧ s.heap.objs.size ≤ T ∧ h'.IsTuple T #[u1, u2] ∧ RelV x u1 ∧ RelV y u2 ∧ tn (i + 1) h' ∧ J.yld i H (.ref T) (upd H T (.tup [x, y])))
    (stop : ∀ (X : Cx), X.prog = P → X.w = w → X.K = K → ∀ (i : Nat) (pins : List (Addr × Obj)) (s : Shared) (σ : L2.St) (H : Hp), Inv X pins σ H s → X.A.handled = none → tn i s.heap → J.stop i H →
      ∃ (fp' wr : List Addr) (Y : Nat → Heap → Value → Heap → Prop) (St : Nat → Heap → Prop), GoesN P w X.A (.Tuple elts kk tpos) it fp' wr i Y St ∧ St i s.heap ∧ (∀ b ∈ wr, b ∈ fp)) :
    Turn P w K (.Tuple elts kk tpos) J fp it tn where
  mem := mem
  obj := obj
  keep := keep
  item := by
    rintro X hP hw hK hc i pins s σ H E I hf st hg
    obtain ⟨fp', wr, n, Y, St, W, hi, hs, hwr, hy⟩ := go X hP hw hK i pins s σ H I (I.ok.hd hc) st hg
    refine wpAny_mono (W.goes i s (fun v s2 => ∃ x H', Inv X pins σ H' s2 ∧ RelV x v ∧ J.yld i H x H' ∧ tn (i + 1) s2.heap ∧ ∀ b ∈ fp, H' b = none) E hi hs fun v h' tk y st' hk htk => ?_) (fun r s1 q => q) fun _ _ q => q
    obtain ⟨T, u1, u2, x, y', rfl, hT, ht, r1, r2, t', yl⟩ := hy v h' y st'
    have hd : s.heap.objs.size ≤ T := hT
    have new : ObjOk X.prog X.w (upd H T (.tup [x, y'])) h' T (.tup [x, y']) := ⟨by show 2 ≤ sizeLine; decide, [u1, u2], .cons r1 (.cons r2 .nil), ht⟩
    have I1 : Inv X pins σ (upd H T (.tup [x, y'])) { s with heap := h', toks := tk } := I.turnedNew (ch := fp) (fun c o hb q => hk c o (fun z => hb (hwr c z)) q) hf hT new
    refine ⟨.ref T, _, I1, rfl, yl, t', fun b hb => ?_⟩
    obtain ⟨o, ho, _⟩ := obj i _ st b hb
    rw [upd_ne (Nat.ne_of_lt (Nat.lt_of_lt_of_le (Heap.lt_size ho) hT))]
    exact (hf b hb).1
  done := by
    rintro X hP hw hK hc i pins s σ H E I hf st hg
    obtain ⟨fp', wr, Y, St, W, hs, hwr⟩ := stop X hP hw hK i pins s σ H I (I.ok.hd hc) st hg
    exact W.stops s (fun s1 => Inv X pins σ H s1) E hs fun h' tk hk htk => I.turnedL (ch := fp) (fun c o hb q => hk c o (fun z => hb (hwr c z)) q) hf
  self := self

/-! ### for i, x in enumerate(a tuple) -/
/-- the tuple at a, its items in new pairs behind their numbers -/
def IteT (K : PySem.W.Frag) (a : Addr) : It :=
  ⟨fun i H => ∃ (xs : List V) (x : V), SqT K H a xs ∧ xs[i]? = some x,
    fun i H v H' => ∃ T x, v = .ref T ∧ H T = none ∧ H' = upd H T (.tup [.int (i : Nat), x]) ∧ ∀ xs, SqT K H a xs → xs[i]? = some x,
    fun i H => ∃ xs : List V, SqT K H a xs ∧ xs.length = i⟩
theorem turn_enumT {P : Program} {w : World} {K : PySem.W.Frag} {elts : List Expr} {kk : Nat} {tpos : Pos} {a e it : Addr} (hei : e ≠ it) (hae : a ≠ e) (hai : a ≠ it) :
    Turn P w K (.Tuple elts kk tpos) (IteT K a) [e, it] e (fun i h => (∃ old, IsEnum h e it ((i : Nat) : Int) old) ∧ h.IsTupleIter it a i) := by
  refine turn_pair (by simp) (fun i h st b hb => ?_) (fun i h h' st k => ?_) (fun A i s Q E st h => let ⟨⟨_, he⟩, _⟩ := st; wpAny_pyIter_enum he h) ?_ ?_
  · obtain ⟨⟨old, he⟩, ⟨o2, e2, _, d2⟩⟩ := st
    rcases List.mem_cons.mp hb with rfl | rest
    · exact ⟨_, he, fun v => nofun⟩
    · obtain rfl : b = it := by simpa using rest
      exact ⟨o2, e2, fun v no => by simp [d2] at no⟩
  · obtain ⟨⟨old, he⟩, h2⟩ := st
    exact ⟨⟨old, k e (by simp) _ he⟩, h2.at fun o q => k it (by simp) o q⟩
  · rintro X rfl rfl rfl i pins s σ H I hh ⟨he, hit⟩ ⟨xs, x, hq, hx⟩
    obtain ⟨its, rv, p, _⟩ := I.tuple hq
    obtain ⟨u, hu, ru⟩ := Vals.get (xs := xs) rv hx
    have pt : s.heap.IsTuple a its.toArray := p
    have W := GoesN.enumFrom (prog := X.prog) (w := X.w) (A := X.A) (elts := elts) (x1 := kk) (pos := tpos) 0 (Draws.tuple (prog := X.prog) (w := X.w) (A := X.A.in1) hh it a hai its.toArray) e hei (by simp [hei, Ne.symm hae]) (by simp)
    refine ⟨_, _, _, _, _, W, ?_, ⟨?_, hit, pt⟩, by simp, ?_⟩
    · have : i < its.length := (List.getElem?_eq_some_iff.mp hu).1
      simpa using this
    · obtain ⟨old, he⟩ := he
      exact ⟨old, by simpa using he⟩
    · rintro v h' ⟨T, t, x', rfl, hT, hx', ht⟩ ⟨⟨old, he'⟩, hit', _⟩
      have hx2 : its[i]? = some x' := by simpa using hx'
      rw [hu] at hx2
      cases hx2
      refine ⟨T, _, _, .int (i : Nat), x, rfl, hT, ht, ⟨t, by simp⟩, ru, ⟨⟨old, by simpa using he'⟩, hit'⟩, T, x, rfl, I.hok.fresh hT, rfl, fun l hl => ?_⟩
      rw [I.tuple_inj hl hq]
      exact hx
  · rintro X rfl rfl rfl i pins s σ H I hh ⟨he, hit⟩ ⟨xs, hq, hx⟩
    obtain ⟨its, rv, p, _⟩ := I.tuple hq
    have pt : s.heap.IsTuple a its.toArray := p
    have W := GoesN.enumFrom (prog := X.prog) (w := X.w) (A := X.A) (elts := elts) (x1 := kk) (pos := tpos) 0 (Draws.tuple (prog := X.prog) (w := X.w) (A := X.A.in1) hh it a hai its.toArray) e hei (by simp [hei, Ne.symm hae]) (by simp)
    have hl : its.toArray.size = i := by
      have q := rv.length
      simp only [List.size_toArray]
      omega
    rw [hl] at W
    refine ⟨_, _, _, _, W, ⟨?_, hit, pt⟩, by simp⟩
    obtain ⟨old, he⟩ := he
    exact ⟨old, by simpa using he⟩
theorem walk_enumT {K : PySem.W.Frag} {a : Addr} {xs : List V} : Walk (IteT K a) xs.length (fun H => SqT K H a xs) (YPair (fun i => some (.int (i : Nat))) (fun i => xs[i]?)) where
  goes := fun i H hi h => ⟨xs, xs[i], h, by simp [hi]⟩
  stops := fun H h => ⟨xs, h, rfl⟩
  yields := fun i H x H' hi h ⟨T, y, e1, e2, e3, e4⟩ => ⟨T, _, y, e1, e2, e3, rfl, e4 xs h⟩
/-- enumerate(v): v a list or a tuple -/
@[irreducible] def EnumG (K : PySem.W.Frag) (vs : List V) (H1 : Hp) (R : It → Hp → Prop) : Prop :=
  ∃ a, vs = [.ref a] ∧ ((∃ xs, SqL K H1 a xs ∧ R (Ite K a) H1) ∨ (∃ xs, SqT K H1 a xs ∧ R (IteT K a) H1))
def iEnumA (K : PySem.W.Frag) (ta : TA) : TI := fun σ H R => ta σ H fun vs H1 => EnumG K vs H1 R
theorem late2 {X : Cx} {pins : List (Addr × Obj)} {σ : L2.St} {H : Hp} {s : Shared} (inv : Inv X pins σ H s) : ∀ b ∈ [s.heap.objs.size + 1, s.heap.objs.size], FpOk X pins H b := by
  intro b hb
  have above : s.heap.objs.size ≤ b := by
    have : b = s.heap.objs.size + 1 ∨ b = s.heap.objs.size := by simpa using hb
    omega
  exact inv.fpOk above (inv.hok.fresh above)
theorem pi_enumA {X : Cx} {e : Expr} {ta : TA} {p pos tpos : Pos} {elts : List Expr} {kk : Nat} (hg : Gl X "enumerate") (hm : X.mg "enumerate" = none) (ha : PA X [e] ta) (hs : starEach [e] X.env = [(false, eval e X.env)] := by rfl) :
    PI X (.Tuple elts kk tpos) (.Call (.Name "enumerate" p) [e] [] pos) (iEnumA X.K ta) := by
  constructor
  intro pins s σ H R inv pre
  refine Call_ (ld_blt inv hg hm boot_enumerate (PyProof.Rows.callWith_type1 (thn (ha.run pos pins s σ H _ inv pre) ?_) hs rfl))
  rintro us s1 ⟨vs, H1, inv1, rel, post⟩
  rw [show EnumG X.K vs H1 R = (∃ a, vs = [.ref a] ∧ ((∃ xs, SqL X.K H1 a xs ∧ R (Ite X.K a) H1) ∨ (∃ xs, SqT X.K H1 a xs ∧ R (IteT X.K a) H1))) by unfold EnumG; rfl] at post
  obtain ⟨a, rfl, ⟨xs, sq, r⟩ | ⟨xs, sq, r⟩⟩ := post
  · obtain rfl := Vals.ref1 rel
    obtain ⟨its, _, at_, _⟩ := inv1.list sq
    exact call_enumerate_list at_.isList fun hp en li _ old => wpAny_pyIter_enum en ⟨_, _, _, _, H1, rfl, inv1.kept (t' := s1.toks) old, turn_enum a (s1.heap.objs.size + 1) s1.heap.objs.size, ⟨⟨.none, en⟩, li, Nat.succ_ne_self _⟩, late2 inv1, r⟩
  · obtain rfl := Vals.ref1 rel
    obtain ⟨its, _, at_, _⟩ := inv1.tuple sq
    have low : a < s1.heap.objs.size := at_.lt
    exact call_enumT (its := its.toArray) at_ fun hp en it_ old => wpAny_pyIter_enum en ⟨_, _, _, _, H1, rfl, inv1.kept (t' := s1.toks) old, turn_enumT (Nat.succ_ne_self _) (Nat.ne_of_lt (Nat.lt_succ_of_lt low)) (Nat.ne_of_lt low), ⟨⟨.none, en⟩, ⟨_, it_, rfl, rfl⟩⟩, late2 inv1, r⟩
end RM

set_option Elab.async false
set_option linter.all false
set_option maxRecDepth 100000
/-! zip(a tuple, a text) -/
namespace RM
open PySem PySem.Spec
open PyProof.Rows
open L2
def ItzTS (K : PySem.W.Frag) (a : Addr) (z : Str) : It :=
  ⟨fun i H => ∃ (xs : List V) (x : V) (c : Nat), SqT K H a xs ∧ xs[i]? = some x ∧ z.cps[i]? = some c,
    fun i H v H' => ∃ T x c, v = .ref T ∧ H T = none ∧ H' = upd H T (.tup [x, .str ⟨#[c]⟩]) ∧ (∀ xs, SqT K H a xs → xs[i]? = some x) ∧ z.cps[i]? = some c,
    fun i H => ∃ xs : List V, SqT K H a xs ∧ min xs.length z.cps.size = i⟩
theorem turn_zipTS {P : Program} {w : World} {K : PySem.W.Frag} {elts : List Expr} {kk : Nat} {tpos : Pos} {a z TI TO i1 i2 : Addr} {x : Str} {tx : Tok} (S : ZipSep2 z TI TO i1 i2 [i1, a] [i2]) (hai : a ≠ i1) :
    Turn P w K (.Tuple elts kk tpos) (ItzTS K a x) [z, TI, TO, i1, i2] z (fun i h => IsZip h z TI TO .none ∧ IsTupOf2 h TI (.ref i1) (.ref i2) ∧ (∃ a1 a2, IsTupOf2 h TO a1 a2) ∧ h.IsTupleIter i1 a i ∧ h.IsStrIter i2 (strIterType x) x tx i) := by
  refine turn_pair (by simp) (fun i h st b hb => ?_) (fun i h h' st k => ?_) (fun A i s Q E st h => wpAny_pyIter_zip st.1 h) ?_ ?_
  · obtain ⟨zi, ti, ⟨_, _, to_⟩, ⟨o1, e1, _, d1⟩, ⟨o2, e2, _, d2⟩⟩ := st
    simp only [List.mem_cons, List.not_mem_nil, or_false] at hb ⊢
    have fl : ∀ {o : Obj} {vs : Array Value}, o.data = .fields vs → ∀ v, o.data ≠ .cell v := fun d v no => by simp [d] at no
    obtain rfl | rfl | rfl | rfl | rfl := hb
    · exact ⟨_, zi, fun v => nofun⟩
    · exact ⟨_, ti, fun v => nofun⟩
    · exact ⟨_, to_, fun v => nofun⟩
    · exact ⟨o1, e1, fl d1⟩
    · exact ⟨o2, e2, fl d2⟩
  · obtain ⟨hz, hTI, ⟨a1, a2, hTO⟩, h1, h2⟩ := st
    exact ⟨k z (by simp) _ hz, k TI (by simp) _ hTI, ⟨a1, a2, k TO (by simp) _ hTO⟩, h1.at fun o q => k i1 (by simp) o q, let ⟨o, ho, r⟩ := h2; ⟨o, k i2 (by simp) o ho, r⟩⟩
  · rintro X rfl rfl rfl i pins s σ H I hh ⟨hz, hTI, hTO, h1, h2⟩ ⟨xs, y, c, hq, hx, hc⟩
    obtain ⟨its, rv, p, _⟩ := I.tuple hq
    obtain ⟨u, hu, ru⟩ := Vals.get (xs := xs) rv hx
    have pt : s.heap.IsTuple a its.toArray := p
    have W := GoesN.zip2 (prog := X.prog) (w := X.w) (A := X.A) (elts := elts) (x1 := kk) (pos := tpos) S (Draws.tuple (prog := X.prog) (w := X.w) (A := X.A.in1) hh i1 a hai its.toArray) (Draws.text (prog := X.prog) (w := X.w) (A := X.A.in1) hh i2 x tx)
    refine ⟨_, _, _, _, _, W, ?_, ⟨hz, hTI, hTO, ⟨h1, pt⟩, h2⟩, by simp, ?_⟩
    · have l1 : i < its.length := (List.getElem?_eq_some_iff.mp hu).1
      have l2 : i < x.cps.size := (Array.getElem?_eq_some_iff.mp hc).1
      simp only [List.size_toArray]
      omega
    · rintro v h' ⟨T, x', y', rfl, hT, hx', ⟨c', t', hc', rfl⟩, ht⟩ ⟨hz', hTI', hTO', ⟨h1', _⟩, h2'⟩
      have hx2 : its[i]? = some x' := by simpa using hx'
      rw [hu] at hx2
      cases hx2
      rw [hc] at hc'
      cases hc'
      refine ⟨T, _, _, y, .str ⟨#[c]⟩, rfl, hT, ht, ru, ⟨t', rfl⟩, ⟨hz', hTI', hTO', h1', h2'⟩, T, y, c, rfl, I.hok.fresh hT, rfl, fun l hl => ?_, hc⟩
      rw [I.tuple_inj hl hq]
      exact hx
  · rintro X rfl rfl rfl i pins s σ H I hh ⟨hz, hTI, hTO, h1, h2⟩ ⟨xs, hq, hl⟩
    obtain ⟨its, rv, p, _⟩ := I.tuple hq
    have pt : s.heap.IsTuple a its.toArray := p
    have W := GoesN.zip2 (prog := X.prog) (w := X.w) (A := X.A) (elts := elts) (x1 := kk) (pos := tpos) S (Draws.tuple (prog := X.prog) (w := X.w) (A := X.A.in1) hh i1 a hai its.toArray) (Draws.text (prog := X.prog) (w := X.w) (A := X.A.in1) hh i2 x tx)
    have hl2 : min its.toArray.size x.cps.size = i := by
      have q := rv.length
      simp only [List.size_toArray]
      omega
    rw [hl2] at W
    exact ⟨_, _, _, _, W, ⟨hz, hTI, hTO, ⟨h1, pt⟩, h2⟩, by simp⟩
def iZipTS (K : PySem.W.Frag) (ta : TA) : TI := fun σ H R => ta σ H fun vs H1 => ∃ a xs z, vs = [.ref a, .str z] ∧ SqT K H1 a xs ∧ R (ItzTS K a z) H1
theorem late5 {X : Cx} {pins : List (Addr × Obj)} {σ : L2.St} {H : Hp} {s : Shared} (inv : Inv X pins σ H s) :
    ∀ b ∈ [s.heap.objs.size + 4, s.heap.objs.size + 2, s.heap.objs.size + 3, s.heap.objs.size, s.heap.objs.size + 1], FpOk X pins H b := by
  intro b hb
  have above : s.heap.objs.size ≤ b := by
    have : b = s.heap.objs.size + 4 ∨ b = s.heap.objs.size + 2 ∨ b = s.heap.objs.size + 3 ∨ b = s.heap.objs.size ∨ b = s.heap.objs.size + 1 := by
      simpa using hb
    omega
  exact inv.fpOk above (inv.hok.fresh above)
theorem pi_zipTS {X : Cx} {e e2 : Expr} {ta : TA} {p pos tpos : Pos} {elts : List Expr} {kk : Nat} (hg : Gl X "zip") (hm : X.mg "zip" = none) (ha : PA X [e, e2] ta)
    (two : starEach [e, e2] X.env = (false, eval e X.env) :: starEach [e2] X.env := by rfl)
    (plain : (backTo pos (starEach [e2] X.env)).any (·.1) = false := by rfl) : PI X (.Tuple elts kk tpos) (.Call (.Name "zip" p) [e, e2] [] pos) (iZipTS X.K ta) := by
  constructor
  intro pins s σ H R inv pre
  refine Call_ (ld_blt inv hg hm PyProof.Rows.boot_zip (PyProof.Rows.callWith_type1 (thn (ha.run pos pins s σ H _ inv pre) ?_) two plain))
  rintro us s1 ⟨_, H1, inv1, rel, a, xs, z, rfl, sq, r⟩
  obtain ⟨_, u, rfl, rfl, ⟨tx, rfl⟩⟩ := vals2 rel
  obtain ⟨its, _, at_, _⟩ := inv1.tuple sq
  have low : a < s1.heap.objs.size := at_.lt
  have sep := zip_sep2 (N := s1.heap.objs.size) (fp1 := [a]) (fp2 := []) (fun b hb => (List.mem_singleton.mp hb).symm ▸ low) nofun
  exact zip_begins2 (begins_tuple a its.toArray) (begins_text z tx) at_ trivial fun hp zi ti to_ i1 i2 _ old =>
    wpAny_pyIter_zip zi ⟨_, _, _, _, H1, rfl, inv1.kept (t' := s1.toks) old, turn_zipTS sep (Nat.ne_of_lt low), ⟨zi, ti, ⟨_, _, to_⟩, ⟨_, i1, rfl, rfl⟩, ⟨_, i2, rfl, rfl⟩⟩, late5 inv1, r⟩
theorem walk_zipTS {K : PySem.W.Frag} {a : Addr} {xs : List V} {z : Str} (hl : xs.length = z.cps.size) : Walk (ItzTS K a z) xs.length (fun H => SqT K H a xs) (YPair (fun i => xs[i]?) (fun i => (z.cps[i]?).map fun c => .str ⟨#[c]⟩)) where
  goes := fun i H hi h => ⟨xs, xs[i], z.cps[i]'(by omega), h, by simp [hi], by simp⟩
  stops := fun H h => ⟨xs, h, by omega⟩
  yields := fun i H x H' hi h ⟨T, y, c, e1, e2, e3, e4, e5⟩ => ⟨T, y, _, e1, e2, e3, e4 xs h, by show Option.map _ z.cps[i]? = _; rw [e5]; rfl⟩
end RM

set_option Elab.async false
set_option linter.all false
set_option maxRecDepth 100000
set_option maxHeartbeats 2000000
/-! heaps that keep; sequences of either kind -/
namespace RM
open PySem PySem.Spec
open PyProof.Rows
open L2
/-- a clause's turns: at the end `fin`; else one more, behind whose tests `wk` is done -/
def Turns (J : It) (g : TG) (tt : TT) (wk : L2.St → Hp → (Hp → Prop) → Prop) (σ0 : L2.St) (vs : List Nat) (W : Nat → Nat → Hp → Prop) (fin : Hp → Prop) : Prop :=
  ∀ i m H, W i m H → (J.stop i H ∧ fin H) ∨ (J.go i H ∧ ∃ N : Hp → Prop, (∀ H', N H' → ∃ m', m' < m ∧ W (i + 1) m' H') ∧
    ∀ x H', J.yld i H x H' → g x σ0 H' fun σ2 H2 => wipe σ2 vs = σ0 ∧ tt σ2 H2 fun b H3 => if b = true then wk σ2 H3 N else N H3)
theorem smT {K : PySem.W.Frag} {H H' : Hp} {a : Addr} {xs : List V} (e : Same H H') (h : SqT K H a xs) : SqT K H' a xs := by
  exact h.imp (Or.imp (e _ _) fun ⟨o, at_⟩ => ⟨o, e _ _ at_⟩) id
theorem smNew {H H1 : Hp} (e : Same H H1) {p : Addr} (h : H1 p = none) (o : HO) : Same H (upd H1 p o) := fun b u q => by rw [upd_ne (ne_of_none (e b u q) h)]; exact e b u q
theorem smNew1 {H : Hp} {p : Addr} (h : H p = none) (o : HO) : Same H (upd H p o) := smNew (Same.refl H) h o
/-- p is none of H's -/
theorem smOut {H H1 : Hp} (e : Same H H1) {p : Addr} (h : H p = none) (o : HO) : Same H (upd H1 p o) := fun b u q => by rw [upd_ne (ne_of_none q h)]; exact e b u q
/-- the tuples stay -/
def TS (K : PySem.W.Frag) (H H' : Hp) : Prop := ∀ a xs, SqT K H a xs → SqT K H' a xs
theorem TS.refl (K : PySem.W.Frag) (H : Hp) : TS K H H := fun _ _ h => h
theorem TS.trans {K : PySem.W.Frag} {H H1 H2 : Hp} (a : TS K H H1) (b : TS K H1 H2) : TS K H H2 := fun p xs h => b p xs (a p xs h)
theorem ts_sm {K : PySem.W.Frag} {H H' : Hp} (e : Same H H') : TS K H H' := fun _ _ h => smT e h
/-- what no tuple is may change -/
def NoTup : HO → Prop
  | .tup _ => False
  | .frz _ _ => False
  | _ => True
theorem ts_upd {K : PySem.W.Frag} {H : Hp} {p : Addr} {u : HO} (o : HO) (h : H p = some u) (n : NoTup u) : TS K H (upd H p o) := fun a xs q => by
  rcases q with (q | ⟨ob, q⟩) | q
  · exact .inl (.inl (by rw [upd_ne (fun z => by rw [z, h] at q; cases q; exact n)]; exact q))
  · exact .inl (.inr ⟨ob, by rw [upd_ne (fun z => by rw [z, h] at q; cases q; exact n)]; exact q⟩)
  · exact .inr q
/-! ### walks of pairs: what the library's Goes.. give, as a Turn -/
/-- a sequence to be read: a list or a tuple -/
def SqA (K : PySem.W.Frag) (H : Hp) (a : Addr) (xs : List V) : Prop := SqL K H a xs ∨ SqT K H a xs
theorem sqA_sm {K : PySem.W.Frag} {H H' : Hp} {a : Addr} {xs : List V} (e : Same H H') (h : SqA K H a xs) : SqA K H' a xs := by
  rcases h with h | h
  · exact .inl (e.seq h)
  · exact .inr (smT e h)
theorem seqA_of {K : PySem.W.Frag} {H0 H : Hp} {a : Addr} {xs : List V} {R : It → Hp → Prop} (h : SqA K H0 a xs) (e : Same H0 H) (q : ∀ J, Walk J xs.length (fun H' => Same H0 H') (YAt xs) → R J H) :
    SeqG K (.ref a) H R := by
  unfold SeqG
  rcases h with h | h
  · exact ⟨a, rfl, .inl ⟨xs, e.seq h, q _ (walk_list.mono (fun H' e => e.seq h) fun i H x H' _ _ y => y)⟩⟩
  · exact ⟨a, rfl, .inr ⟨xs, smT e h, q _ (walk_tup.mono (fun H' e => smT e h) fun i H x H' _ _ y => y)⟩⟩
theorem enumA_of {K : PySem.W.Frag} {H0 H : Hp} {a : Addr} {xs : List V} {R : It → Hp → Prop} (h : SqA K H0 a xs) (e : Same H0 H) (q : ∀ J, Walk J xs.length (fun H' => Same H0 H') (YPair (fun i => some (.int (i : Nat))) (fun i => xs[i]?)) → R J H) :
    EnumG K [.ref a] H R := by
  unfold EnumG
  rcases h with h | h
  · exact ⟨a, rfl, .inl ⟨xs, e.seq h, q _ (walk_enum.mono (fun H' e => e.seq h) fun i H x H' _ _ y => y)⟩⟩
  · exact ⟨a, rfl, .inr ⟨xs, smT e h, q _ (walk_enumT.mono (fun H' e => smT e h) fun i H x H' _ _ y => y)⟩⟩
/-- t + u -/
@[irreducible] def CatG (K : PySem.W.Frag) : R2 := rCatA K
theorem op_catG {X : Cx} : OpR X (binaryOp .Add) (CatG X.K) := by
  unfold CatG
  exact op_catA
theorem op_catG' {X : Cx} {K : PySem.W.Frag} (hK : X.K = K) : OpR X (binaryOp .Add) (CatG K) := by
  subst hK
  exact op_catG
theorem catA_of {K : PySem.W.Frag} {H : Hp} {a b : Addr} {xs ys : List V} {Q : VK} (ha : SqT K H a xs) (hb : SqT K H b ys) (hl : xs.length + ys.length ≤ sizeLine)
    (q : ∀ t H', Same H H' → SqT K H' t (xs ++ ys) → Q (.ref t) H') : CatG K (.ref a) (.ref b) H Q := by
  unfold CatG
  refine ⟨a, b, xs, ys, rfl, rfl, ha, hb, hl, ?_, ?_, ?_⟩
  · intro e
    subst e
    exact q b H (Same.refl H) (by simpa using hb)
  · intro _ e
    subst e
    exact q a H (Same.refl H) (by simpa using ha)
  · intro _ _ p hp
    exact q p _ (smNew1 hp _) (SqT.of upd_same)
end RM

set_option Elab.async false
set_option linter.all false
set_option maxRecDepth 100000
set_option maxHeartbeats 2000000
namespace RM
open PySem PySem.Spec PyProof.Rows L2
/-! ### data in the heap -/
section
variable {K : PySem.W.Frag} {H H' : Hp}
mutual
theorem Dp.keep (e : Same H H') : ∀ {v : V} {d : PyData}, Dp K H v d → Dp K H' v d
  | _, _, .non => .non
  | _, _, .bl b => .bl b
  | _, _, .int i => .int i
  | _, _, .str x => .str x
  | _, _, .lst h r => .lst (e.seq h) (DpAll.keep e r)
  | _, _, .tup h r => .tup (smT e h) (DpAll.keep e r)
theorem DpAll.keep (e : Same H H') : ∀ {vs : List V} {ds : List PyData}, DpAll K H vs ds → DpAll K H' vs ds
  | _, _, .nil => .nil
  | _, _, .cons h r => .cons (Dp.keep e h) (DpAll.keep e r)
end
theorem DpAll.len : ∀ {vs : List V} {ds : List PyData}, DpAll K H vs ds → vs.length = ds.length
  | _, _, .nil => rfl
  | _, _, .cons h r => congrArg (· + 1) (DpAll.len r)
theorem DpAll.get : ∀ {vs : List V} {ds : List PyData}, DpAll K H vs ds → ∀ {i : Nat} {d : PyData}, ds[i]? = some d → ∃ v, vs[i]? = some v ∧ Dp K H v d
  | _, _, .nil, i, d, e => by simp at e
  | _, _, .cons h r, 0, d, e => by
    have e' := Option.some.inj e
    subst e'
    exact ⟨_, rfl, h⟩
  | _, _, .cons h r, i + 1, d, e => DpAll.get r (i := i) (by simpa using e)
theorem DpAll.getV : ∀ {vs : List V} {ds : List PyData}, DpAll K H vs ds → ∀ {i : Nat} {v : V}, vs[i]? = some v → ∃ d, ds[i]? = some d ∧ Dp K H v d
  | _, _, .nil, i, d, e => by simp at e
  | _, _, .cons h r, 0, d, e => by
    have e' := Option.some.inj e
    subst e'
    exact ⟨_, rfl, h⟩
  | _, _, .cons h r, i + 1, d, e => DpAll.getV r (i := i) (by simpa using e)
theorem DpAll.snoc : ∀ {vs : List V} {ds : List PyData} {v : V} {d : PyData}, DpAll K H vs ds → Dp K H v d → DpAll K H (vs ++ [v]) (ds ++ [d])
  | _, _, _, _, .nil, h => .cons h .nil
  | _, _, _, _, .cons g r, h => .cons g (DpAll.snoc r h)
theorem DpAll.app : ∀ {vs us : List V} {ds es : List PyData}, DpAll K H vs ds → DpAll K H us es → DpAll K H (vs ++ us) (ds ++ es)
  | _, _, _, _, .nil, h => h
  | _, _, _, _, .cons g r, h => .cons g (DpAll.app r h)
theorem Dp.str_inv {v : V} {x : Str} (h : Dp K H v (.str x)) : v = .str x := by cases h; rfl
theorem Dp.int_inv {v : V} {i : Int} (h : Dp K H v (.int i)) : v = .int i := by cases h; rfl
theorem Dp.tup_inv {v : V} {ds : List PyData} (h : Dp K H v (.tuple ds)) : ∃ a xs, v = .ref a ∧ SqT K H a xs ∧ DpAll K H xs ds := by cases h with | tup h r => exact ⟨_, _, rfl, h, r⟩
theorem Dp.lst_inv {v : V} {ds : List PyData} (h : Dp K H v (.list ds)) : ∃ a xs, v = .ref a ∧ SqL K H a xs ∧ DpAll K H xs ds := by cases h with | lst h r => exact ⟨_, _, rfl, h, r⟩
theorem DpAll.cons_inv {vs : List V} {d : PyData} {ds : List PyData} (h : DpAll K H vs (d :: ds)) : ∃ v r, vs = v :: r ∧ Dp K H v d ∧ DpAll K H r ds := by cases h with | cons h r => exact ⟨_, _, rfl, h, r⟩
theorem DpAll.nil_inv {vs : List V} (h : DpAll K H vs []) : vs = [] := by cases h; rfl
end
/-- a sequence: a list or a tuple -/
def seqD (fl : Bool) (l : List PyData) : PyData := if fl then .list l else .tuple l
theorem seqD_inv {K : PySem.W.Frag} {H : Hp} {v : V} {fl : Bool} {ds : List PyData} (h : Dp K H v (seqD fl ds)) : ∃ a xs, v = .ref a ∧ (SqL K H a xs ∨ SqT K H a xs) ∧ DpAll K H xs ds := by
  cases fl with
  | true => obtain ⟨a, xs, e, h1, h2⟩ := Dp.lst_inv h; exact ⟨a, xs, e, .inl h1, h2⟩
  | false => obtain ⟨a, xs, e, h1, h2⟩ := Dp.tup_inv h; exact ⟨a, xs, e, .inr h1, h2⟩
/-! ### statements -/
inductive Stm where
  | read (v k : Str) | set (v : Str) (n : Int) | copy (v u : Str) | print (v : Str) | say (n : Int) | wait
  | ite (v : Str) (n : Int) (a b : List Stm) | same (v u : Str) (a b : List Stm) | rep (n : Int) (a : List Stm) | stop
namespace Stm
def word : Stm → Str
  | .read .. => "read" | .set .. => "set" | .copy .. => "copy" | .print .. => "print" | .say .. => "say" | .wait => "wait"
  | .ite .. => "if" | .same .. => "same" | .rep .. => "repeat" | .stop => "stop"
def form : Stm → Str
  | .read .. => "kk" | .set .. => "kv" | .copy .. => "kk" | .print .. => "k" | .say .. => "v" | .wait => ""
  | .ite .. => "kvbb" | .same .. => "kkbb" | .rep .. => "tb" | .stop => ""
def flats : Stm → List PyData
  | .read v k => [.str v, .str k] | .set v n => [.str v, .int n] | .copy v u => [.str v, .str u] | .print v => [.str v] | .say n => [.int n] | .wait => []
  | .ite v n _ _ => [.str v, .int n] | .same v u _ _ => [.str v, .str u] | .rep n _ => [.int n] | .stop => []
def bodies : Stm → List (List Stm)
  | .ite _ _ a b => [a, b] | .same _ _ a b => [a, b] | .rep _ a => [a]
  | _ => []
/-- the variables that it names -/
def names : Stm → List Str
  | .read v _ => [v] | .set v _ => [v] | .copy v u => [v, u] | .print v => [v] | .say _ => [] | .wait => []
  | .ite v _ _ _ => [v] | .same v u _ _ => [v, u] | .rep _ _ => [] | .stop => []
end Stm
mutual
def encS (fl : Bool) : Stm → PyData
  | .read v k => .tuple [.str "read", .str v, .str k]
  | .set v n => .tuple [.str "set", .str v, .int n]
  | .copy v u => .tuple [.str "copy", .str v, .str u]
  | .print v => .tuple [.str "print", .str v]
  | .say n => .tuple [.str "say", .int n]
  | .wait => .tuple [.str "wait"]
  | .ite v n a b => .tuple [.str "if", .str v, .int n, seqD fl (encB fl a), seqD fl (encB fl b)]
  | .same v u a b => .tuple [.str "same", .str v, .str u, seqD fl (encB fl a), seqD fl (encB fl b)]
  | .rep n a => .tuple [.str "repeat", .int n, seqD fl (encB fl a)]
  | .stop => .tuple [.str "stop"]
def encB (fl : Bool) : List Stm → List PyData
  | [] => []
  | s :: r => encS fl s :: encB fl r
end
theorem encB_map (fl : Bool) : ∀ l : List Stm, encB fl l = l.map (encS fl)
  | [] => rfl
  | s :: r => by rw [encB, List.map_cons, encB_map fl r]
theorem encS_eq (fl : Bool) (s : Stm) : encS fl s = .tuple (.str s.word :: (s.flats ++ s.bodies.map fun b => seqD fl (encB fl b))) := by
  cases s <;> simp only [encS] <;> rfl
/-! ### words, values -/
def isValue (n : Int) : Bool := decide (-99 ≤ n) && decide (n ≤ 99)
def isLet (c : Nat) : Bool := decide (c ∈ ("abcdefghijklmnopqrstuvwxyz" : Str).cps.toList)
def isWord (z : Str) : Bool := decide (1 ≤ z.length) && decide (z.length ≤ 6) && z.cps.toList.all isLet
theorem isWord_len {z : Str} (h : isWord z = true) : z.length ≤ 6 := by
  unfold isWord at h
  rw [Bool.and_eq_true, Bool.and_eq_true] at h
  exact of_decide_eq_true h.1.2
theorem word_size {z : Str} (h : isWord z = true) : z.length ≤ sizeLine := Nat.le_of_lt (small1000 (by have := isWord_len h; omega))
/-- what stands in a statement itself is right -/
def wl : Stm → Bool
  | .read v k => isWord v && isWord k | .set v n => isWord v && isValue n | .copy v u => isWord v && isWord u | .print v => isWord v | .say n => isValue n | .wait => true
  | .ite v n _ _ => isWord v && isValue n | .same v u _ _ => isWord v && isWord u | .rep n _ => decide (0 ≤ n) && decide (n ≤ 3) | .stop => true
mutual
def wS : Stm → Bool
  | .read v k => isWord v && isWord k | .set v n => isWord v && isValue n | .copy v u => isWord v && isWord u | .print v => isWord v | .say n => isValue n | .wait => true
  | .ite v n a b => isWord v && isValue n && (wB a && wB b) | .same v u a b => isWord v && isWord u && (wB a && wB b) | .rep n a => (decide (0 ≤ n) && decide (n ≤ 3)) && wB a | .stop => true
def wB : List Stm → Bool
  | [] => true
  | s :: r => wS s && wB r
end
theorem wl_of {s : Stm} (h : wS s = true) : wl s = true := by
  cases s <;> simp only [wS, wl] at h ⊢ <;> first | exact h | exact (Bool.and_eq_true_iff.mp h).1
theorem wB_of {s : Stm} (h : wS s = true) : ∀ b ∈ s.bodies, wB b = true := by
  cases s <;> simp only [wS, Stm.bodies, List.mem_cons, List.not_mem_nil, or_false, Bool.and_eq_true, false_implies, implies_true] at h ⊢
  · rintro b (rfl | rfl)
    · exact h.2.1
    · exact h.2.2
  · rintro b (rfl | rfl)
    · exact h.2.1
    · exact h.2.2
  · rintro b rfl
    exact h.2
theorem wB_all : ∀ {l : List Stm}, wB l = true → ∀ s ∈ l, wS s = true
  | [], _, s, h => by simp at h
  | t :: r, w, s, h => by
    rw [wB, Bool.and_eq_true] at w
    rcases List.mem_cons.mp h with rfl | h
    · exact w.1
    · exact wB_all w.2 s h
theorem isValue_rep {n : Int} (h : (decide (0 ≤ n) && decide (n ≤ 3)) = true) : isValue n = true := by
  rw [Bool.and_eq_true] at h
  have h1 := of_decide_eq_true h.1
  have h2 := of_decide_eq_true h.2
  unfold isValue
  rw [decide_eq_true (by omega), decide_eq_true (by omega)]
  rfl
/-! ### numbers of a statement -/
mutual
/-- how deep bodies are nested in a statement, a body -/
def dS : Stm → Nat
  | .ite _ _ a b => max (dB a) (dB b)
  | .same _ _ a b => max (dB a) (dB b)
  | .rep _ a => dB a
  | _ => 0
def dB : List Stm → Nat
  | [] => 1
  | s :: r => max (dS s + 1) (dB r)
end
mutual
/-- how many statements, inner ones counted -/
def cS : Stm → Nat
  | .ite _ _ a b => 1 + cB a + cB b
  | .same _ _ a b => 1 + cB a + cB b
  | .rep _ a => 1 + cB a
  | _ => 1
def cB : List Stm → Nat
  | [] => 0
  | s :: r => cS s + cB r
end
mutual
/-- the statements of a body with their paths, in the order of the text -/
def aS (p : List Int) : Stm → List (List Int × Stm)
  | .ite v n a b => (p, .ite v n a b) :: (aB (p ++ [0]) 0 a ++ aB (p ++ [1]) 0 b)
  | .same v u a b => (p, .same v u a b) :: (aB (p ++ [0]) 0 a ++ aB (p ++ [1]) 0 b)
  | .rep n a => (p, .rep n a) :: aB (p ++ [0]) 0 a
  | s => [(p, s)]
def aB (p : List Int) (i : Nat) : List Stm → List (List Int × Stm)
  | [] => []
  | s :: r => aS (p ++ [(i : Int)]) s ++ aB p (i + 1) r
end
theorem dB_one : ∀ l : List Stm, 1 ≤ dB l
  | [] => Nat.le_refl 1
  | s :: r => by rw [dB]; exact Nat.le_trans (dB_one r) (Nat.le_max_right _ _)
theorem dB_mem : ∀ {l : List Stm} {s : Stm}, s ∈ l → dS s + 1 ≤ dB l
  | [], s, h => by simp at h
  | t :: r, s, h => by
    rw [dB]
    rcases List.mem_cons.mp h with rfl | h
    · exact Nat.le_max_left _ _
    · exact Nat.le_trans (dB_mem h) (Nat.le_max_right _ _)
theorem dS_mem {s : Stm} {b : List Stm} (h : b ∈ s.bodies) : dB b ≤ dS s := by
  cases s <;> simp only [Stm.bodies, List.mem_cons, List.not_mem_nil, or_false] at h <;> simp only [dS]
  · rcases h with rfl | rfl
    · exact Nat.le_max_left _ _
    · exact Nat.le_max_right _ _
  · rcases h with rfl | rfl
    · exact Nat.le_max_left _ _
    · exact Nat.le_max_right _ _
  · rw [h]; exact Nat.le_refl _
theorem cS_pos (s : Stm) : 1 ≤ cS s := by cases s <;> simp only [cS] <;> omega
theorem cB_mem : ∀ {l : List Stm} {s : Stm}, s ∈ l → cS s ≤ cB l
  | [], s, h => by simp at h
  | t :: r, s, h => by
    rw [cB]
    rcases List.mem_cons.mp h with rfl | h
    · omega
    · have := cB_mem h; omega
theorem cS_mem {s : Stm} {b : List Stm} (h : b ∈ s.bodies) : cB b + 1 ≤ cS s := by
  cases s <;> simp only [Stm.bodies, List.mem_cons, List.not_mem_nil, or_false] at h <;> simp only [cS]
  · rcases h with rfl | rfl <;> omega
  · rcases h with rfl | rfl <;> omega
  · rw [h]; omega
theorem cB_len : ∀ l : List Stm, l.length ≤ cB l
  | [] => Nat.le_refl 0
  | s :: r => by
    have := cB_len r
    have := cS_pos s
    rw [cB, List.length_cons]
    omega
/-! ### kinds -/
theorem tyT {K : PySem.W.Frag} {H : Hp} {a : Addr} {xs : List V} (h : SqT K H a xs) : TyX K H (.ref a) (.type "tuple") := by
  rcases h with (h | ⟨o, h⟩) | ⟨o, its, n, h, hc, _⟩
  · exact .base (.tup h)
  · exact .fTuple h
  · exact .kTuple h hc
theorem tyL {K : PySem.W.Frag} {H : Hp} {a : Addr} {xs : List V} (h : SqL K H a xs) : TyX K H (.ref a) (.type "list") := by
  rcases h with (h | ⟨o, h⟩) | ⟨o, its, n, h, hc, _⟩
  · exact .base (.lst h)
  · exact .base (.frz h)
  · exact .kList h hc
/-! ### cuts -/
theorem cut_tail (x : V) (xs : List V) : cutV (x :: xs) (some 1) none = xs := by
  unfold cutV
  have e1 : HT.sIx (x :: xs).length 0 (some 1) = 1 := by
    have := HT.sIx_nat (x :: xs).length 0 1
    rw [show (some 1 : Option Int) = some ((1 : Nat) : Int) from rfl, this, List.length_cons]
    omega
  rw [e1, HT.sIx_none, List.length_cons]
  show (xs.drop 0).take (xs.length + 1 - 1) = xs
  rw [List.drop_zero, Nat.add_sub_cancel, List.take_length]
theorem cut_not {x : V} {xs : List V} : ¬ (HT.sIx (x :: xs).length 0 (some 1) = 0 ∧ HT.sIx (x :: xs).length (x :: xs).length none = (x :: xs).length) := by
  intro h
  have := HT.sIx_nat (x :: xs).length 0 1
  rw [show (some 1 : Option Int) = some ((1 : Nat) : Int) from rfl, this, List.length_cons] at h
  omega
/-! ### comprehensions over a walk: what is kept of each item -/
theorem paired_mono {α β : Type} {F G : α → β → Prop} {l : List α} {m : List β} (p : Paired F l m) (h : ∀ a b, F a b → G a b) : Paired G l m := L2.Paired.mapP p h
/-- a new item goes to the list at D -/
abbrev addsL (D : Addr) (te : TE) : L2.St → Hp → (Hp → Prop) → Prop := fun σ H N => te σ H fun y H1 => ∃ acc, H1 D = some (.lst acc) ∧ acc.length < sizeLine ∧ N (upd H1 D (.lst (acc ++ [y])))
theorem lc_opt {α : Type} {J : It} {n : Nat} {G : Hp → Prop} {Y : Nat → Hp → V → Hp → Prop} (wk : Walk J n G Y) {g : TG} {tt : TT} {te : TE} {vs : List Nat} {σ : L2.St} {H1 : Hp} {D : Addr} {Qd : Hp → Prop}
    (R : α → V → Hp → Prop) (o : Nat → Option α) (hD : H1 D = none) (hn : n < sizeLine) (hG : ∀ H, Same H1 H → G H)
    (hR : ∀ a y H H', R a y H → Same H H' → R a y H') (hRD : ∀ a y H l l', R a y H → H D = some (.lst l) → R a y (upd H D (.lst l')))
    (hs : ∀ i x H H' (N : Hp → Prop), i < n → Same H1 H → Y i H x H' →
      (∀ y H4 a, o i = some a → Same H H4 → R a y H4 → ∃ acc, H4 D = some (.lst acc) ∧ acc.length < sizeLine ∧ N (upd H4 D (.lst (acc ++ [y])))) → (o i = none → ∀ H3, Same H H3 → N H3) →
      g x (wipe σ vs) H' fun σ2 H2 => wipe σ2 vs = wipe σ vs ∧ tt σ2 H2 fun b H3 => if b = true then addsL D te σ2 H3 N else N H3)
    (hd : ∀ H ys, Same H1 H → H D = some (.lst ys) → Paired (fun y a => R a y H) ys ((List.range n).filterMap o) → Qd H) :
    ∃ W : Nat → Nat → Hp → Prop, (∃ m, W 0 m (upd H1 D (.lst []))) ∧ Turns J g tt (addsL D te) (wipe σ vs) vs W Qd := by
  have len : ∀ i, ((List.range i).filterMap o).length ≤ i := fun i => Nat.le_trans (List.length_filterMap_le ..) (by simp)
  refine lc_it wk (fun i H => i ≤ n ∧ Same H1 H ∧ ∃ acc, H D = some (.lst acc) ∧ Paired (fun y a => R a y H) acc ((List.range i).filterMap o)) ⟨Nat.zero_le _, smNew1 hD _, [], upd_same, .nil⟩ (fun i H _ h => hG H h.2.1) ?_ ?_
  · rintro i x H H' hi ⟨_, s1, acc, hacc, p⟩ y
    refine hs i x H H' _ hi s1 y (fun y H4 a ha s4 r => ⟨acc, s4 _ _ hacc, ?_, hi, ?_, acc ++ [y], upd_same, ?_⟩) (fun ha H3 s3 => ⟨hi, fun b u q => s3 _ _ (s1 _ _ q), acc, s3 _ _ hacc, ?_⟩)
    · have := p.length
      have := len i
      omega
    · intro b u q
      rw [upd_ne (ne_of_none q hD)]
      exact s4 _ _ (s1 _ _ q)
    · rw [List.range_succ, List.filterMap_append, List.filterMap_cons, ha]
      refine Paired.snoc (paired_mono p fun y' a' r' => ?_) ?_
      · exact hRD _ _ _ _ _ (hR _ _ _ _ r' s4) (s4 _ _ hacc)
      · exact hRD _ _ _ _ _ r (s4 _ _ hacc)
    · rw [List.range_succ, List.filterMap_append, List.filterMap_cons, ha]
      show Paired _ acc (_ ++ [])
      rw [List.append_nil]
      exact paired_mono p fun y' a' r' => hR _ _ _ _ r' s3
  · rintro H ⟨_, s1, acc, hacc, p⟩
    exact hd H acc s1 hacc p
theorem paired_const {α β : Type} {v : α} : ∀ {ys : List α} {l : List β}, Paired (fun y _ => y = v) ys l → ys = List.replicate l.length v
  | _, _, .nil => rfl
  | _, _, .cons h t => by rw [h, paired_const t]; rfl
theorem range_some {α : Type} (f : Nat → α) (n : Nat) : (List.range n).filterMap (fun i => some (f i)) = (List.range n).map f := by
  induction n with
  | zero => rfl
  | succ n ih => rw [List.range_succ, List.filterMap_append, List.map_append, ih]; rfl
theorem rep_bl (n : Nat) : List.replicate n (V.bl true) = (List.replicate n true).map V.bl := (List.map_replicate ..).symm
theorem all_rep (n : Nat) : (List.replicate n true).all id = true := by
  rw [List.all_eq_true]
  intro x hx
  rw [(List.mem_replicate.mp hx).2]
  rfl
/-! ### data without lists -/
mutual
def noL : PyData → Bool
  | .list _ => false
  | .tuple ds => noLs ds
  | .dict _ => false
  | _ => true
def noLs : List PyData → Bool
  | [] => true
  | d :: r => noL d && noLs r
end
section
variable {K : PySem.W.Frag} {H H' : Hp}
mutual
theorem dp_ts (e : TS K H H') : ∀ {v : V} {d : PyData}, Dp K H v d → noL d = true → Dp K H' v d
  | _, _, .non, _ => .non
  | _, _, .bl b, _ => .bl b
  | _, _, .int i, _ => .int i
  | _, _, .str x, _ => .str x
  | _, _, .lst _ _, n => by simp [noL] at n
  | _, _, .tup h r, n => .tup (e _ _ h) (dps_ts e r (by simpa [noL] using n))
theorem dps_ts (e : TS K H H') : ∀ {vs : List V} {ds : List PyData}, DpAll K H vs ds → noLs ds = true → DpAll K H' vs ds
  | _, _, .nil, _ => .nil
  | _, _, .cons h r, n => by
    rw [noLs, Bool.and_eq_true] at n
    exact .cons (dp_ts e h n.1) (dps_ts e r n.2)
end
end
mutual
theorem noL_encS : ∀ s : Stm, noL (encS false s) = true
  | .read v k => rfl
  | .set v n => rfl
  | .copy v u => rfl
  | .print v => rfl
  | .say n => rfl
  | .wait => rfl
  | .stop => rfl
  | .ite v n a b => by
    have h1 := noL_encB a
    have h2 := noL_encB b
    simp only [encS, seqD, Bool.false_eq_true, if_false, noL, noLs, h1, h2, Bool.and_self]
  | .same v u a b => by
    have h1 := noL_encB a
    have h2 := noL_encB b
    simp only [encS, seqD, Bool.false_eq_true, if_false, noL, noLs, h1, h2, Bool.and_self]
  | .rep n a => by
    have h1 := noL_encB a
    simp only [encS, seqD, Bool.false_eq_true, if_false, noL, noLs, h1, Bool.and_self]
theorem noL_encB : ∀ l : List Stm, noLs (encB false l) = true
  | [] => rfl
  | s :: r => by
    have h1 := noL_encS s
    have h2 := noL_encB r
    rw [encB, noLs, h1, h2]
    rfl
end
theorem noLs_get : ∀ {ds : List PyData}, noLs ds = true → ∀ d ∈ ds, noL d = true
  | [], _, d, h => by simp at h
  | e :: r, n, d, h => by
    rw [noLs, Bool.and_eq_true] at n
    rcases List.mem_cons.mp h with rfl | h
    · exact n.1
    · exact noLs_get n.2 d h
theorem noLs_of : ∀ {ds : List PyData}, (∀ d ∈ ds, noL d = true) → noLs ds = true
  | [], _ => rfl
  | e :: r, h => by rw [noLs, h e List.mem_cons_self, noLs_of fun d hd => h d (List.mem_cons_of_mem _ hd)]; rfl
theorem noLs_app : ∀ {ds es : List PyData}, noLs ds = true → noLs es = true → noLs (ds ++ es) = true
  | [], _, _, h => h
  | e :: r, es, n, h => by
    rw [noLs, Bool.and_eq_true] at n
    rw [List.cons_append, noLs, n.1, noLs_app n.2 h]
    rfl
/-- a tuple of ints -/
def pathD (p : List Int) : PyData := .tuple (p.map .int)
theorem noL_path (p : List Int) : noL (pathD p) = true := by
  show noLs (p.map .int) = true
  exact noLs_of fun d h => by
    obtain ⟨i, _, rfl⟩ := List.mem_map.mp h
    rfl
theorem ints_dp {K : PySem.W.Frag} {H : Hp} : ∀ p : List Int, DpAll K H (p.map V.int) (p.map .int)
  | [] => .nil
  | i :: r => .cons (.int i) (ints_dp r)
theorem ints_inv {K : PySem.W.Frag} {H : Hp} : ∀ {p : List Int} {vs : List V}, DpAll K H vs (p.map .int) → vs = p.map V.int
  | [], _, h => DpAll.nil_inv h
  | i :: r, _, h => by
    obtain ⟨v, q, rfl, h1, h2⟩ := DpAll.cons_inv h
    rw [Dp.int_inv h1, ints_inv h2]
    rfl
theorem path_dp {K : PySem.W.Frag} {H : Hp} {a : Addr} {p : List Int} (h : SqT K H a (p.map V.int)) : Dp K H (.ref a) (pathD p) := .tup h (ints_dp p)
theorem path_inv {K : PySem.W.Frag} {H : Hp} {v : V} {p : List Int} (h : Dp K H v (pathD p)) : ∃ a, v = .ref a ∧ SqT K H a (p.map V.int) := by
  obtain ⟨a, xs, rfl, h1, h2⟩ := Dp.tup_inv h
  rw [ints_inv h2] at h1
  exact ⟨a, rfl, h1⟩
/-! ### the signs of a statement's items -/
def Stm.signs : Stm → List Nat
  | .read .. => [107, 107] | .set .. => [107, 118] | .copy .. => [107, 107] | .print .. => [107] | .say .. => [118] | .wait => []
  | .ite .. => [107, 118, 98, 98] | .same .. => [107, 107, 98, 98] | .rep .. => [116, 98] | .stop => []
theorem signs_eq (s : Stm) : s.form.cps.toList = s.signs := by cases s <;> (simp only [Stm.form, Stm.signs]; decide +kernel)
theorem sign_at {s : Stm} {i c : Nat} (h : s.form.cps[i]? = some c) : s.signs[i]? = some c := by rw [← signs_eq]; simpa using h
/-- one sign of a text beside another -/
theorem sgn (c x : Nat) : decide (V.str ⟨#[c]⟩ = V.str ⟨#[x]⟩) = decide (c = x) := by
  by_cases h : c = x
  · rw [h, decide_eq_true rfl, decide_eq_true rfl]
  · rw [decide_eq_false h, decide_eq_false]
    intro e
    injection e with e1
    injection e1 with e2
    exact h (by simpa using e2)
theorem str_k : ("k" : Str) = ⟨#[107]⟩ := by decide +kernel
theorem str_b : ("b" : Str) = ⟨#[98]⟩ := by decide +kernel
/-- the items that are bodies, by their signs -/
theorem bodies_sel (s : Stm) (f : List Stm → PyData) :
    (List.range (s.flats ++ s.bodies.map f).length).filterMap (fun i => if s.signs[i]? = some 98 then (s.flats ++ s.bodies.map f)[i]? else none) = s.bodies.map f := by
  cases s <;> rfl
theorem names_sel (s : Stm) (f : List Stm → PyData) (h : ∀ v k, s ≠ .read v k) :
    (List.range (s.flats ++ s.bodies.map f).length).filterMap (fun i => if s.signs[i]? = some 107 then (s.flats ++ s.bodies.map f)[i]? else none) = s.names.map .str := by
  cases s <;> first | rfl | exact absurd rfl (h _ _)
theorem some_range {α : Type} : ∀ (l : List α), (List.range l.length).filterMap (fun i => l[i]?) = l := by
  intro l
  have e : ∀ n, n ≤ l.length → (List.range n).filterMap (fun i => l[i]?) = l.take n := by
    intro n
    induction n with
    | zero => intro _; simp
    | succ n ih =>
      intro hn
      rw [List.range_succ, List.filterMap_append, ih (by omega), List.take_add_one]
      have : l[n]? = some l[n] := List.getElem?_eq_getElem (by omega)
      simp [this]
  rw [e l.length (Nat.le_refl _), List.take_length]
theorem sign98 {s : Stm} {i : Nat} (h : s.signs[i]? = some 98) : ∃ b ∈ s.bodies, ∀ f : List Stm → PyData, (s.flats ++ s.bodies.map f)[i]? = some (f b) := by
  cases s with
  | ite v n a b =>
    match i, h with
    | 2, _ => exact ⟨a, by simp [Stm.bodies], fun f => rfl⟩
    | 3, _ => exact ⟨b, by simp [Stm.bodies], fun f => rfl⟩
    | 0, h => simp [Stm.signs] at h
    | 1, h => simp [Stm.signs] at h
    | n + 4, h => simp [Stm.signs] at h
  | same v n a b =>
    match i, h with
    | 2, _ => exact ⟨a, by simp [Stm.bodies], fun f => rfl⟩
    | 3, _ => exact ⟨b, by simp [Stm.bodies], fun f => rfl⟩
    | 0, h => simp [Stm.signs] at h
    | 1, h => simp [Stm.signs] at h
    | n + 4, h => simp [Stm.signs] at h
  | rep n a =>
    match i, h with
    | 1, _ => exact ⟨a, by simp [Stm.bodies], fun f => rfl⟩
    | 0, h => simp [Stm.signs] at h
    | n + 2, h => simp [Stm.signs] at h
  | read v k => match i, h with
    | 0, h => simp [Stm.signs] at h
    | 1, h => simp [Stm.signs] at h
    | n + 2, h => simp [Stm.signs] at h
  | set v k => match i, h with
    | 0, h => simp [Stm.signs] at h
    | 1, h => simp [Stm.signs] at h
    | n + 2, h => simp [Stm.signs] at h
  | copy v k => match i, h with
    | 0, h => simp [Stm.signs] at h
    | 1, h => simp [Stm.signs] at h
    | n + 2, h => simp [Stm.signs] at h
  | print v => match i, h with
    | 0, h => simp [Stm.signs] at h
    | n + 1, h => simp [Stm.signs] at h
  | say v => match i, h with
    | 0, h => simp [Stm.signs] at h
    | n + 1, h => simp [Stm.signs] at h
  | wait => simp [Stm.signs] at h
  | stop => simp [Stm.signs] at h
theorem signFlat {s : Stm} {i c : Nat} (h : s.signs[i]? = some c) (n : c ≠ 98) : ∃ d, noL d = true ∧ ∀ f : List Stm → PyData, (s.flats ++ s.bodies.map f)[i]? = some d := by
  cases s with
  | ite v m a b =>
    match i, h with
    | 0, _ => exact ⟨.str v, rfl, fun f => rfl⟩
    | 1, _ => exact ⟨.int m, rfl, fun f => rfl⟩
    | 2, h => exact absurd (Option.some.inj h).symm n
    | 3, h => exact absurd (Option.some.inj h).symm n
    | k + 4, h => simp [Stm.signs] at h
  | same v m a b =>
    match i, h with
    | 0, _ => exact ⟨.str v, rfl, fun f => rfl⟩
    | 1, _ => exact ⟨.str m, rfl, fun f => rfl⟩
    | 2, h => exact absurd (Option.some.inj h).symm n
    | 3, h => exact absurd (Option.some.inj h).symm n
    | k + 4, h => simp [Stm.signs] at h
  | rep m a =>
    match i, h with
    | 0, _ => exact ⟨.int m, rfl, fun f => rfl⟩
    | 1, h => exact absurd (Option.some.inj h).symm n
    | k + 2, h => simp [Stm.signs] at h
  | read v k => match i, h with
    | 0, h => exact ⟨.str v, rfl, fun f => rfl⟩
    | 1, h => exact ⟨.str k, rfl, fun f => rfl⟩
    | n + 2, h => simp [Stm.signs] at h
  | set v k => match i, h with
    | 0, h => exact ⟨.str v, rfl, fun f => rfl⟩
    | 1, h => exact ⟨.int k, rfl, fun f => rfl⟩
    | n + 2, h => simp [Stm.signs] at h
  | copy v k => match i, h with
    | 0, h => exact ⟨.str v, rfl, fun f => rfl⟩
    | 1, h => exact ⟨.str k, rfl, fun f => rfl⟩
    | n + 2, h => simp [Stm.signs] at h
  | print v => match i, h with
    | 0, h => exact ⟨.str v, rfl, fun f => rfl⟩
    | n + 1, h => simp [Stm.signs] at h
  | say v => match i, h with
    | 0, h => exact ⟨.int v, rfl, fun f => rfl⟩
    | n + 1, h => simp [Stm.signs] at h
  | wait => simp [Stm.signs] at h
  | stop => simp [Stm.signs] at h
theorem items_len (s : Stm) (f : List Stm → PyData) : (s.flats ++ s.bodies.map f).length = s.signs.length := by cases s <;> rfl
/-! ### paths -/
def aBs (q : List Int) : Nat → List (List Stm) → List (List Int × Stm)
  | _, [] => []
  | j, b :: r => aB (q ++ [(j : Int)]) 0 b ++ aBs q (j + 1) r
theorem aS_eq (q : List Int) (s : Stm) : aS q s = (q, s) :: aBs q 0 s.bodies := by
  cases s <;> simp only [aS, Stm.bodies, aBs, List.append_nil] <;> rfl
theorem aB_app (p : List Int) : ∀ (l m : List Stm) (k : Nat), aB p k (l ++ m) = aB p k l ++ aB p (k + l.length) m
  | [], m, k => rfl
  | s :: r, m, k => by
    rw [List.cons_append, aB, aB, aB_app p r m (k + 1), List.append_assoc, List.length_cons]
    rw [show k + 1 + r.length = k + (r.length + 1) by omega]
theorem aBs_app (q : List Int) : ∀ (l m : List (List Stm)) (k : Nat), aBs q k (l ++ m) = aBs q k l ++ aBs q (k + l.length) m
  | [], m, k => rfl
  | s :: r, m, k => by
    rw [List.cons_append, aBs, aBs, aBs_app q r m (k + 1), List.append_assoc, List.length_cons]
    rw [show k + 1 + r.length = k + (r.length + 1) by omega]
theorem take_more {α : Type} {l : List α} {i : Nat} {x : α} (h : l[i]? = some x) : l.take (i + 1) = l.take i ++ [x] := by
  rw [List.take_add_one, h]
  rfl
theorem len_take {α : Type} {l : List α} {i : Nat} {x : α} (h : l[i]? = some x) : (l.take i).length = i := by
  have := (List.getElem?_eq_some_iff.mp h).1
  rw [List.length_take]
  omega
theorem aB_take {p : List Int} {l : List Stm} {i : Nat} {s : Stm} (h : l[i]? = some s) : aB p 0 (l.take (i + 1)) = aB p 0 (l.take i) ++ aS (p ++ [(i : Int)]) s := by
  rw [take_more h, aB_app, len_take h]
  show _ ++ aB p (0 + i) [s] = _
  rw [Nat.zero_add, aB, aB, List.append_nil]
theorem aBs_take {q : List Int} {l : List (List Stm)} {i : Nat} {b : List Stm} (h : l[i]? = some b) : aBs q 0 (l.take (i + 1)) = aBs q 0 (l.take i) ++ aB (q ++ [(i : Int)]) 0 b := by
  rw [take_more h, aBs_app, len_take h]
  show _ ++ aBs q (0 + i) [b] = _
  rw [Nat.zero_add, aBs, aBs, List.append_nil]
mutual
theorem aS_len : ∀ (p : List Int) (s : Stm), (aS p s).length = cS s
  | p, .ite v n a b => by simp only [aS, cS, List.length_cons, List.length_append, aB_len]; omega
  | p, .same v n a b => by simp only [aS, cS, List.length_cons, List.length_append, aB_len]; omega
  | p, .rep n a => by simp only [aS, cS, List.length_cons, aB_len]; omega
  | p, .read v k => rfl
  | p, .set v k => rfl
  | p, .copy v k => rfl
  | p, .print v => rfl
  | p, .say v => rfl
  | p, .wait => rfl
  | p, .stop => rfl
theorem aB_len : ∀ (p : List Int) (k : Nat) (l : List Stm), (aB p k l).length = cB l
  | p, k, [] => rfl
  | p, k, s :: r => by rw [aB, cB, List.length_append, aS_len, aB_len]
end
/-! ### depths -/
def dBs : List (List Stm) → Nat
  | [] => 0
  | b :: r => max (dB b) (dBs r)
theorem dS_eq (s : Stm) : dS s = dBs s.bodies := by cases s <;> simp [dS, Stm.bodies, dBs]
theorem dBs_snoc : ∀ (l : List (List Stm)) (b : List Stm), dBs (l ++ [b]) = max (dBs l) (dB b)
  | [], b => by simp [dBs]
  | c :: r, b => by rw [List.cons_append, dBs, dBs, dBs_snoc r b, Nat.max_assoc]
theorem dB_snoc : ∀ (l : List Stm) (s : Stm), dB (l ++ [s]) = max (dB l) (dS s + 1)
  | [], s => by simp only [List.nil_append, dB]; omega
  | c :: r, s => by rw [List.cons_append, dB, dB, dB_snoc r s, Nat.max_assoc]
end RM

set_option Elab.async false
set_option linter.all false
set_option maxRecDepth 100000
set_option maxHeartbeats 2000000
/-! what == reads of a program's data -/
namespace RM
open PySem PySem.Spec PyProof.Rows L2
theorem noL_tuple {ds : List PyData} (h : noLs ds = true) : noL (.tuple ds) = true := h
theorem let_lt {c : Nat} (h : isLet c = true) : c < 128 := by
  have a : ∀ c ∈ ("abcdefghijklmnopqrstuvwxyz" : Str).cps.toList, c < 128 := by decide +kernel
  exact a c (of_decide_eq_true h)
theorem word_ok {z : Str} (h : isWord z = true) : PyData.strOk z = true := by
  unfold isWord at h
  rw [Bool.and_eq_true] at h
  unfold PyData.strOk
  rw [Array.all_eq_true]
  intro i hi
  have := List.all_eq_true.mp h.2 (z.cps[i]) (by simp)
  exact decide_eq_true (Nat.lt_trans (let_lt this) (by decide))
theorem lay_seq {fl : Bool} {ds : List PyData} (h : PyData.canLayAll0 ds = true) : (seqD fl ds).canLay0 = true := by
  cases fl <;> exact h
theorem dep_seq {fl : Bool} {ds : List PyData} : (seqD fl ds).depth = PyData.depthAll ds + 1 := by
  cases fl <;> simp only [seqD, PyData.depth] <;> rfl
theorem ok_words : ∀ z ∈ (["read", "set", "copy", "print", "say", "wait", "if", "same", "repeat", "stop"] : List Str), PyData.strOk z = true := by decide +kernel
mutual
theorem lay_encS (fl : Bool) : ∀ s : Stm, wS s = true → (encS fl s).canLay0 = true
  | .read v k, h => by
    simp only [wS, Bool.and_eq_true] at h
    simp only [encS, PyData.canLay0, PyData.canLayAll0, word_ok h.1, word_ok h.2, ok_words "read" (by decide), Bool.and_self]
  | .set v n, h => by
    simp only [wS, Bool.and_eq_true] at h
    simp only [encS, PyData.canLay0, PyData.canLayAll0, word_ok h.1, ok_words "set" (by decide), Bool.and_self]
  | .copy v u, h => by
    simp only [wS, Bool.and_eq_true] at h
    simp only [encS, PyData.canLay0, PyData.canLayAll0, word_ok h.1, word_ok h.2, ok_words "copy" (by decide), Bool.and_self]
  | .print v, h => by
    simp only [wS] at h
    simp only [encS, PyData.canLay0, PyData.canLayAll0, word_ok h, ok_words "print" (by decide), Bool.and_self]
  | .say n, h => by
    simp only [encS, PyData.canLay0, PyData.canLayAll0, ok_words "say" (by decide), Bool.and_self]
  | .wait, h => by
    simp only [encS, PyData.canLay0, PyData.canLayAll0, ok_words "wait" (by decide), Bool.and_self]
  | .stop, h => by
    simp only [encS, PyData.canLay0, PyData.canLayAll0, ok_words "stop" (by decide), Bool.and_self]
  | .ite v n a b, h => by
    simp only [wS, Bool.and_eq_true] at h
    simp only [encS, PyData.canLay0, PyData.canLayAll0, word_ok h.1.1, lay_seq (lay_encB fl a h.2.1), lay_seq (lay_encB fl b h.2.2), ok_words "if" (by decide), Bool.and_self]
  | .same v u a b, h => by
    simp only [wS, Bool.and_eq_true] at h
    simp only [encS, PyData.canLay0, PyData.canLayAll0, word_ok h.1.1, word_ok h.1.2, lay_seq (lay_encB fl a h.2.1), lay_seq (lay_encB fl b h.2.2), ok_words "same" (by decide), Bool.and_self]
  | .rep n a, h => by
    simp only [wS, Bool.and_eq_true] at h
    simp only [encS, PyData.canLay0, PyData.canLayAll0, lay_seq (lay_encB fl a h.2), ok_words "repeat" (by decide), Bool.and_self]
theorem lay_encB (fl : Bool) : ∀ l : List Stm, wB l = true → PyData.canLayAll0 (encB fl l) = true
  | [], _ => by simp only [encB, PyData.canLayAll0]
  | s :: r, h => by
    simp only [wB, Bool.and_eq_true] at h
    simp only [encB, PyData.canLayAll0, lay_encS fl s h.1, lay_encB fl r h.2, Bool.and_self]
end
mutual
theorem dep_encS (fl : Bool) : ∀ s : Stm, (encS fl s).depth ≤ 2 * dS s + 1
  | .read v k => by simp [encS, PyData.depth, PyData.depthAll]
  | .set v n => by simp [encS, PyData.depth, PyData.depthAll]
  | .copy v u => by simp [encS, PyData.depth, PyData.depthAll]
  | .print v => by simp [encS, PyData.depth, PyData.depthAll]
  | .say n => by simp [encS, PyData.depth, PyData.depthAll]
  | .wait => by simp [encS, PyData.depth, PyData.depthAll]
  | .stop => by simp [encS, PyData.depth, PyData.depthAll]
  | .ite v n a b => by
    have h1 := dep_encB fl a
    have h2 := dep_encB fl b
    simp only [encS, PyData.depth, PyData.depthAll, dep_seq, dS]
    omega
  | .same v u a b => by
    have h1 := dep_encB fl a
    have h2 := dep_encB fl b
    simp only [encS, PyData.depth, PyData.depthAll, dep_seq, dS]
    omega
  | .rep n a => by
    have h1 := dep_encB fl a
    simp only [encS, PyData.depth, PyData.depthAll, dep_seq, dS]
    omega
theorem dep_encB (fl : Bool) : ∀ l : List Stm, PyData.depthAll (encB fl l) + 1 ≤ 2 * dB l
  | [] => by simp [encB, PyData.depthAll, dB]
  | s :: r => by
    have h1 := dep_encS fl s
    have h2 := dep_encB fl r
    simp only [encB, PyData.depthAll, dB]
    omega
end
theorem shaped_encB {fl : Bool} {l : List Stm} (h : wB l = true) (hd : dB l ≤ 4) : SeqAt.shaped (seqD fl (encB fl l)) = true := by
  unfold SeqAt.shaped
  rw [lay_seq (lay_encB fl l h), dep_seq, decide_eq_true (by have := dep_encB fl l; omega)]
  rfl
theorem eqv_encB {fl : Bool} {l : List Stm} (h : wB l = true) : PyData.eqv (seqD fl (encB fl l)) (seqD fl (encB fl l)) = true := SeqAt.eqv_refl _ (lay_seq (lay_encB fl l h))
theorem encB_get {fl : Bool} {l : List Stm} {i : Nat} {d : PyData} (h : (encB fl l)[i]? = some d) : ∃ s, l[i]? = some s ∧ d = encS fl s := by
  rw [encB_map, List.getElem?_map] at h
  obtain ⟨s, hs, e⟩ := Option.map_eq_some_iff.mp h
  exact ⟨s, hs, e.symm⟩
theorem ty_seq {K : PySem.W.Frag} {H0 H : Hp} {a : Addr} {xs : List V} (h : SqL K H0 a xs ∨ SqT K H0 a xs) (e : Same H0 H) : ∃ t, TyX K H (.ref a) t ∧ PySem.W.kitAny K t [.type "list", .type "tuple"] = some true := by
  rcases h with h | h
  · exact ⟨.type "list", tyL (e.seq h), kitAny_cons (b := true) (kit_ty (by decide +kernel)) (fun z => by cases z) (fun _ => rfl)⟩
  · exact ⟨.type "tuple", tyT (smT e h), kitAny_cons (b := false) (kit_ty (by decide +kernel)) (fun _ => kitAny_cons (b := true) (kit_ty (by decide +kernel)) (fun z => by cases z) (fun _ => rfl)) (fun z => by cases z)⟩
theorem strs_inv {K : PySem.W.Frag} {H : Hp} : ∀ {zs : List Str} {vs : List V}, DpAll K H vs (zs.map .str) → vs = zs.map V.str
  | [], _, h => DpAll.nil_inv h
  | z :: zs, _, h => by
    obtain ⟨v, r, rfl, h1, h2⟩ := DpAll.cons_inv h
    rw [Dp.str_inv h1, strs_inv h2]
    rfl
theorem word_read (s : Stm) : s.word = "read" ↔ ∃ v k, s = .read v k := by
  constructor
  · intro h
    cases s <;> first | exact ⟨_, _, rfl⟩ | exact absurd (show _ = (_ : Str) from h) (by simp only [Stm.word]; decide)
  · rintro ⟨v, k, rfl⟩
    rfl
theorem paired_eq {α : Type} {f : α → V} : ∀ {ys : List V} {l : List α}, Paired (fun y a => y = f a) ys l → ys = l.map f
  | _, _, .nil => rfl
  | _, _, .cons h t => by rw [h, paired_eq t]; rfl
theorem atI_nat0 {α : Type} {xs : List α} {i : Nat} {v : α} (h : xs[i]? = some v) : atI xs (0 + (i : Nat) : Int) = some v := by rw [Int.zero_add]; exact atI_nat h
theorem mk_sm {H H' : Hp} {x dx C : Addr} (hx : H x = none) (hdx : H dx = none) (e : ∀ b u, b ≠ x → (upd (upd H dx (.own x)) x (.ins C dx [])) b = some u → H' b = some u) : Same H H' := fun b u z => by
  refine e b u (ne_of_none z hx) ?_
  rw [upd_ne (ne_of_none z hx), upd_ne (ne_of_none z hdx)]
  exact z
theorem mk_in {H : Hp} {x dx C : Addr} (hx : H x = none) (hdx : H dx = none) (hne : dx ≠ x) : Same H (upd (upd H dx (.own x)) x (.ins C dx [])) :=
  smNew (smNew1 hdx _) (by rw [upd_ne hne.symm]; exact hx) _
/-- x[i], x a list or a tuple -/
def rIxA (K : PySem.W.Frag) : R2 := fun x y H Q => ∃ p xs i v, x = .ref p ∧ y = .int i ∧ (SqL K H p xs ∨ SqT K H p xs) ∧ atI xs i = some v ∧ Q v H
theorem ix_any {X : Cx} : IxR X (rIxA X.K) := by
  intro value slice pins s σ H x y v u Q I rx ry h hs
  obtain ⟨p, xs, i, v', e1, e2, h | h, h2, q⟩ := h
  · exact ix_list value slice pins s σ H x y v u Q I rx ry ⟨p, xs, i, v', e1, e2, h, h2, q⟩ hs
  · exact ix_tup value slice pins s σ H x y v u Q I rx ry ⟨p, xs, i, v', e1, e2, h, h2, q⟩ hs
end RM

set_option Elab.async false
set_option linter.all false
set_option maxRecDepth 100000
set_option maxHeartbeats 2000000
namespace RM
open PySem PySem.Spec PyProof.Rows L2
/-! ### own exception classes: what the head tells -/
/-- an exception class with its own __init__ -/
def oexB (K : PySem.W.Frag) (C : Addr) : Bool :=
  (match K.lookup C with
    | some ⟨.type t, _, .cls cd, sl⟩ => (match cd.mro, sl.toList with
      | .ref c :: bm, [_, _, _, _, some (.builtin n), _] => decide (t = "type") && (decide (c = C) && (decide (n = "ValueError.__new__") && ((!cd.hasDel) && (cd.hasDict && PySem.HandSPX.refsVE bm))))
      | _, _ => false)
    | _ => false) &&
  (He.eqO (PySem.W.findIn K (.ref C) "__setattr__") (some (some (.builtin "object.__setattr__"))) && (decide (PySem.W.subIn K (.ref C) (.type "BaseException") = some true) &&
    (decide (PySem.W.typeIn K (.ref C) = some (.type "type")) && PySem.W.keepIn K (.ref C))))
theorem oexB_ok {K : PySem.W.Frag} {C : Addr} (h : oexB K C = true) : OexC K C := by
  obtain ⟨h0, h⟩ := He.ba h
  obtain ⟨h1, h⟩ := He.ba h
  obtain ⟨h2, h⟩ := He.ba h
  obtain ⟨h3, h4⟩ := He.ba h
  refine ⟨?_, He.eqO_ok h1, of_decide_eq_true h2, of_decide_eq_true h3, h4⟩
  split at h0
  case h_2 => cases h0
  case h_1 t dd cd sl lk =>
    split at h0
    case h_2 => cases h0
    case h_1 c bm k0 k1 k2 k3 n k5 hm hsl =>
      obtain ⟨q1, h0⟩ := He.ba h0
      obtain ⟨q2, h0⟩ := He.ba h0
      obtain ⟨q3, h0⟩ := He.ba h0
      obtain ⟨q4, h0⟩ := He.ba h0
      obtain ⟨q5, q6⟩ := He.ba h0
      have e1 := of_decide_eq_true q1
      have e2 := of_decide_eq_true q2
      have e3 := of_decide_eq_true q3
      have e4 : cd.hasDel = false := by simpa using q4
      obtain ⟨l⟩ := sl
      have e6 : l = [k0, k1, k2, k3, some (.builtin n), k5] := hsl
      cases cd
      simp only at hm e4 q5
      subst hm e1 e2 e3 e4 q5 e6
      exact ⟨_, _, _, _, _, _, _, _, _, _, _, _, _, _, _, lk, q6⟩
/-- X(), X an own exception class without own __init__ -/
theorem pmk_exc0 {X : Cx} {x : Str} {p pos : Pos} (q : PySem.W.excIn X.K (He.ga X.K x) He.veBase "ValueError.__new__" = true ∧ PySem.W.keepIn X.K (.ref (He.ga X.K x)) = true ∧ PySem.W.subIn X.K (.ref (He.ga X.K x)) (.type "BaseException") = some true ∧
      PySem.W.typeIn X.K (.ref (He.ga X.K x)) = some (.type "type")) (gC : X.mg x = some (.ref (He.ga X.K x))) (hg : Gl X x := by rfl) (hdb : (x == ("__debug__" : Str)) = false := by decide) :
    PMk X (.Call (.Name x p) [] [] pos) (fun _ H Q => Q (.ref (He.ga X.K x)) none H) := by
  obtain ⟨q1, q2, q3, q4⟩ := q
  intro pins s σ H Q I h
  refine wpAny_Call_Name_kw (ld_glob I hg gC ?_ hdb)
  refine PySem.W.callWith_K0 I.kIn q2 ?_
  obtain ⟨bm, N, nm, qn, bs, hd, sn, sub, ab, col, dd, k0, k1, k2, k3, k5, mN, hC, hN, hni, T⟩ := exc_obj I.kIn q1
  exact wpAny_call_exc_subT F.excBase_ValueError T hC hN hni (fun h' e hm => mk_of I hm (raises_own q3 q4) h (I.hok.gone hm.new)) (by show 0 ≤ sizeLine; exact Nat.zero_le _)
/-! ### defs that let exceptions out -/
section
variable {P : Program} {w : World} {K : PySem.W.Frag} {mg : Str → Option Value} {base : Heap} {k : Nat} {x m : Str} {C : Addr} {sp : Sp}
/-- the body's form -/
def BodyX (P : Program) (w : World) (K : PySem.W.Frag) (mg : Str → Option Value) (base : Heap) (N : List Str) (qual : Str) (st : Stmt) (f : Addr) (k : Nat) (sp : Sp) : Prop :=
  ∀ (cdv : Value) (A : Around) (outer : List Env) (s : Shared) (H : Hp) (vs : List V) (Q : VK) (E : XK), Room k (A.deeper (envOfC qual (defScope st) s.heap.objs.size f cdv)) → sp vs H Q E →
    ∃ t, PSs (cxOf (L2.CX P w) P w K mg base N qual (defScope st) f cdv A outer s H E) (defBody st) t ∧ t { nx := fun _ H' => Q .non H', rt := Q } (start N vs) H
theorem cal_X {st : Stmt} {f : Addr} {N ps : List Str} (F : ∃ fd, FunD K x x (defArgs st) (defBody st) (defScope st) [] [] f fd) (hm : mg x = some (.ref f)) (S : FnScope N ps (defScope st))
    (hb : ∀ (kV doc pm : Value) (an : Option Addr) (cdv ct : Value) (us : List Value), us.length = ps.length → bindArgs (PySem.W.fnOf x x (defArgs st) (defBody st) (defScope st) .none kV doc pm an cdv ct) ⟨us, []⟩ = pure (ps.zip us))
    (len : ∀ vs H Q E, sp vs H Q E → vs.length = ps.length) (h : BodyX P w K mg base N x st f k sp) : Cal P w K mg base (L2.CX P w) (k + 1) x sp :=
  let ⟨fd, F⟩ := F
  ⟨f, fd, ps, F.ok S len h, hm, F.kp, F.bindsN hb⟩
theorem mak_X {qual : Str} {st : Stmt} {f : Addr} {N ps : List Str} (F : ∃ fd, FunD K "__init__" qual (defArgs st) (defBody st) (defScope st) [] [] f fd) (M : Mk K C f) (hm : mg x = some (.ref C)) (S : FnScope N ps (defScope st))
    (hb : ∀ (kV doc pm : Value) (an : Option Addr) (cdv ct : Value) (us : List Value), us.length = ps.length → bindArgs (PySem.W.fnOf "__init__" qual (defArgs st) (defBody st) (defScope st) .none kV doc pm an cdv ct) ⟨us, []⟩ = pure (ps.zip us))
    (len : ∀ vs H Q E, sp vs H Q E → vs.length = ps.length) (h : BodyX P w K mg base N qual st f k sp) : Mak P w K mg base (L2.CX P w) (k + 1) x C sp :=
  let ⟨fd, F⟩ := F
  ⟨f, fd, ps, M, F.ok S len h, hm, F.bindsN hb⟩
theorem calX_never {x : Str} {st : Stmt} {f : Addr} {ps : List Str} {sp : Sp} {k : Nat} (F : ∃ fd, FunD K x x (defArgs st) (defBody st) (defScope st) [] [] f fd) (hm : mg x = some (.ref f))
    (hb : ∀ (kV doc pm : Value) (an : Option Addr) (cdv ct : Value) (us : List Value), us.length = ps.length → bindArgs (PySem.W.fnOf x x (defArgs st) (defBody st) (defScope st) .none kV doc pm an cdv ct) ⟨us, []⟩ = pure (ps.zip us))
    (no : ∀ vs H Q E, ¬ sp vs H Q E) : Cal P w K mg base (L2.CX P w) k x sp :=
  let ⟨fd, F⟩ := F
  ⟨f, fd, ps, ⟨fun vs H Q E h => absurd h (no vs H Q E), fun A outer s H args us vs Q E _ _ _ _ h => absurd h (no vs H Q E)⟩, hm, F.kp, F.bindsN hb⟩
/-- an own exception class: its name, its __init__ -/
def Exo (P : Program) (w : World) (K : PySem.W.Frag) (mg : Str → Option Value) (base : Heap) (k : Nat) (x : Str) (C : Addr) (sp : Sp) : Prop :=
  ∃ (f : Addr) (fd : FuncData) (ps : List Str), OexC K C ∧ Meth K C "__init__" f ∧ FnOk P w K mg base CX0 k f fd ps sp ∧ mg x = some (.ref C) ∧ Binds K fd ps []
end
section
variable {X : Cx} {W : WX} {k j : Nat} {C : Addr} {x m : Str} {sp : Sp} {E : L2.St → XK} {p pos apos : Pos} {e o : Expr} {es : List Expr} {ta : TE} {t : TA}
/-- f(e, ..), f of a promise with exceptions -/
theorem pcX (tk : Takes X W) (c : Cal X.prog X.w X.K X.mg X.base (L2.CX X.prog X.w) k x sp) (hr : Room j X.A) (ha : PA X (e :: es) t) (hk : k ≤ j := by omega) (hg : Gl X x := by rfl)
    (hpl : (backTo pos (starEach es X.env)).any (·.1) = false := by rfl) (he : starEach (e :: es) X.env = (false, eval e X.env) :: starEach es X.env := by rfl) (hdb : (x == ("__debug__" : Str)) = false := by decide) :
    PE X (.Call (.Name x p) (e :: es) [] pos) (tCallS sp (WE W) t) := by
  obtain ⟨f, fd, ps, F, hm, kp, b⟩ := c
  exact pe_callS F (hr.mono hk) hg hm kp b (fun σ => passAt tk σ) ha hdb he hpl
/-- C(e, ..): a new instance; E at the slots -/
def tMakeS (C : Addr) (sp : Sp) (E : L2.St → XK) (t : TA) : TE := fun σ H Q => t σ H fun vs H1 => ∀ x dx, H1 x = none → H1 dx = none → dx ≠ x →
  sp (.ref x :: vs) (upd (upd H1 dx (.own x)) x (.ins C dx [])) (fun v H2 => v = .non ∧ Q (.ref x) H2) (E σ)
theorem pmkX (tk : Takes X W) (c : Mak X.prog X.w X.K X.mg X.base (L2.CX X.prog X.w) k x C sp) (hr : Room j X.A) (ha : PA X (e :: es) t) (hk : k + 1 ≤ j := by omega) (hg : Gl X x := by rfl)
    (hpl : (backTo pos (starEach es X.env)).any (·.1) = false := by rfl) (he : starEach (e :: es) X.env = (false, eval e X.env) :: starEach es X.env := by rfl) (hdb : (x == ("__debug__" : Str)) = false := by decide) :
    PE X (.Call (.Name x p) (e :: es) [] pos) (tMakeS C sp (WE W) t) := by
  obtain ⟨f, fd, ps, M, F, hm, b⟩ := c
  constructor
  intro pins s σ H Q I h
  refine wpAny_Call_Name_kw (ld_glob I hg hm ?_ hdb)
  refine PySem.W.callWith_K (h₀ := X.base) I.ok.mod.kin M.kp (thn (ha.run pos pins s σ H _ I h) ?_) he hpl
  rintro us s1 ⟨vs, H1, I1, r, q⟩
  refine ⟨I1.kIn, ?_⟩
  have f1 : H1 (s1.heap.objs.size + 1) = none := I1.hok.fresh (Nat.le_succ _)
  have f2 : H1 s1.heap.objs.size = none := I1.hok.fresh (Nat.le_refl _)
  have q1 := q _ _ f1 f2 (Nat.ne_of_lt (Nat.lt_succ_self _))
  have J := Inv.made (C := C) I1
  have rr : Vals (V.ref (s1.heap.objs.size + 1) :: vs) (Value.ref (s1.heap.objs.size + 1) :: us) := .cons rfl r
  have ll : (Value.ref (s1.heap.objs.size + 1) :: us).length = ps.length := rr.length.symm.trans (F.len _ _ _ _ q1)
  have bb := b _ (Value.ref (s1.heap.objs.size + 1) :: us) J.kIn (by rw [List.append_nil]; exact ll)
  rw [List.append_nil] at bb
  refine wpAny_call (make_map (f := f) I1.kIn M.makes M.init (beq_iff_eq.mp M.fn) (codeAny_mono (F.run _ X.stack _ _ ⟨Value.ref (s1.heap.objs.size + 1) :: us, []⟩ _ _ _ _ ((hr.mono hk).make C us []) (J.env0.make C us []) bb rr q1) ?_))
  intro r2 s2 z
  match r2, z with
  | .error y, z => exact passAt tk σ pins _ _ y s2 J z
  | .ok (.ret y), z =>
    obtain ⟨v, H2, J2, rv, rfl, q2⟩ := J.after z
    exact ⟨rv, V.ref (s1.heap.objs.size + 1), H2, J2, rfl, q2⟩
/-- raise C(e, ..), C with its own __init__ -/
theorem ps_raiseX {pos2 : Pos} (tk : Takes X W) (c : Exo X.prog X.w X.K X.mg X.base k x C sp) (hr : Room j X.A) (ha : PA X (e :: es) t) (hc : X.calm = true := by rfl) (hk : k + 1 ≤ j := by omega) (hg : Gl X x := by rfl)
    (hpl : (backTo pos (starEach es X.env)).any (·.1) = false := by rfl) (he : starEach (e :: es) X.env = (false, eval e X.env) :: starEach es X.env := by rfl) (hdb : (x == ("__debug__" : Str)) = false := by decide) :
    PS X (.Raise (some (.Call (.Name x p) (e :: es) [] pos)) none pos2) (fun _ σ H => tMkO C sp [] t σ H fun cls d H' => W cls d σ H') := by
  obtain ⟨f, fd, ps, T, M, F, hm, b⟩ := c
  exact ps_raise hc tk (pmk_oex T M.at_ (beq_iff_eq.mp M.fn) F (hr.mono hk) b .nil pass0 hg hm ha hdb he hpl)
end
/-! ### except clauses, each with or without a name -/
/-- an exception stands caught at the foot of the try -/
def Caught (X : Cx) (pins : List (Addr × Obj)) (σ : L2.St) (H : Hp) (cls : Value) (d : Option Addr) (a : Addr) (s : Shared) : Prop :=
  H a = none ∧ ∃ (B : Heap) (sI : Shared), Inv X pins σ H sI ∧ (∀ b o, sI.heap.get? b = some o → b ∉ frs X.stack → B.get? b = some o) ∧ sI.heap.UpToSlots s.heap ∧ HandSPX.FlyingZ B X.stack a (Zc cls d) s.heap ∧ s.os = sI.os ∧ AllBare s.gens
section
variable {X : Cx} {pins : List (Addr × Obj)} {σ : L2.St} {H : Hp} {cls : Value} {d : Option Addr} {a : Addr} {s : Shared}
theorem Caught.inv (c : Caught X pins σ H cls d a s) : Inv X pins σ H s :=
  let ⟨_, _, _, I, nb, up, fl, os, ag⟩ := c; I.landed nb fl.1 up os ag
theorem Caught.obj (c : Caught X pins σ H cls d a s) : ∃ oe vs, s.heap.get? a = some oe ∧ Zc cls d oe ∧ oe.data = .fields vs :=
  let ⟨_, _, _, _, _, _, fl, _, _⟩ := c; fl.there
theorem Caught.far (c : Caught X pins σ H cls d a s) : a ∉ frs X.stack := by
  obtain ⟨_, _, _, _, _, _, fl, _, _⟩ := c
  obtain ⟨oe, vs, e, _, dd⟩ := fl.there
  intro hm
  obtain ⟨_, o, e', hnf⟩ := fl.2.2.1.mem hm
  rw [e] at e'
  exact hnf vs (Option.some.inj e' ▸ dd)
theorem Caught.suite (c : Caught X pins σ H cls d a s) (hs : X.stack = X.env :: X.outer) (hf : X.env.frame = some X.env.locals) :
    ∃ oe, (Zc cls d oe ∧ ∃ vs, oe.data = .fields vs) ∧ s.heap.get? a = some oe ∧ Inv (X.suite a ((a, oe) :: (X.pn ++ pins))) [] σ H s := by
  obtain ⟨oe, vs, e, z, dd⟩ := c.obj
  have nf := c.far
  rw [hs] at nf
  refine ⟨oe, ⟨z, vs, dd⟩, e, c.inv.suite e dd c.1 (fun h => nf ?_) fun h => nf ?_⟩
  · exact List.mem_filterMap.mpr ⟨X.env, List.mem_cons_self, by rw [hf, h]⟩
  · obtain ⟨u, hu, q⟩ := List.mem_filterMap.mp h
    exact List.mem_filterMap.mpr ⟨u, List.mem_cons_of_mem _ hu, q⟩
theorem Caught.again {M : Model} {A : Around} {Q : Unit → Shared → Prop} {E : Value → Shared → Prop} (c : Caught X pins σ H cls d a s) (h : ∀ s', Caught X pins σ H cls d a s' → Q () s') : wpAny M A (setFlight (.ref a) none) Q E s := by
  obtain ⟨na, B, sI, I, nb, up, fl, os, ag⟩ := c
  exact HandSPX.lands_againZ fl fun h' fl' up' => h _ ⟨na, B, sI, I, nb, up.trans up', fl', os, ag⟩
/-- what a row of clauses wishes, read at the ends -/
def Hds (X : Cx) (hds : List ExceptHandler) (wv : Ends → WX) : Prop :=
  ∀ (pins : List (Addr × Obj)) (D : Ends) (σ : L2.St) (H : Hp) (cls : Value) (d : Option Addr) (a : Addr) (s : Shared), Caught X pins σ H cls d a s → wv D cls d σ H → wpAny (model X.prog X.w) X.A (handleBy (.ref a) X.env hds) (SP X pins D) X.xe s
theorem hds_nil {W : WX} (tk : Takes X W) (hf : X.env.frame = some X.env.locals := by rfl) : Hds X [] (fun _ => W) := by
  intro pins D σ H cls d a s c w
  refine wpAny_handleBy_nil ?_
  obtain ⟨na, B, sI, I, nb, up, fl, os, ag⟩ := c
  obtain ⟨_, _, _, oe, vs, T, _, _, e, _, dd, h1, _⟩ := id fl
  unfold PySem.passOn
  refine wpAny_bind (wpAny_field e dd h1 ?_)
  rw [if_neg (by simp)]
  have out : wpAny (model X.prog X.w) X.A (setFlight (.ref a) X.env.frame) (fun _ s' => wpAny (model X.prog X.w) X.A (throw (.ref a) : Sem Flow) (SP X pins D) X.xe s') X.xe s := by
    rw [hf]
    exact HandSPX.setFlight_upZ fl fun h' hh up' => wpAny_throw (tk _ _ ⟨a, B, sI, pins, σ, H, cls, d, rfl, I, nb, up.trans up', .inr (.inr hh), na, os, ag, w⟩)
  first
    | exact wpAny_bind (wpAny_pure (wpAny_bind out))
    | exact wpAny_bind out
/-- the clause's class is looked at -/
theorem hd_test {x : Str} {np : Pos} {c : Value} {b : Bool} {Q : Bool → Shared → Prop} {E : Value → Shared → Prop} {R : Result → Shared → Prop} {pos' : Pos} (hc : Names X x c) (k : Caught X pins σ H cls d a s) (hs : X.stack = X.env :: X.outer) (hf : X.env.frame = some X.env.locals)
    (hb : PySem.W.exmOne X.K cls c = some b) (h : R (.ok (if b = true then .brk else .next)) s) : codeAny (model X.prog X.w) (X.A.mark (some (.ref a))) (.handlers (.ref a) [.ExceptHandler (some (.Name x np)) none [] pos'] X.env) R s := by
  obtain ⟨oe, ⟨z, _⟩, e, S⟩ := k.suite hs hf
  refine codeAny_handlers_test ?_
  have tyl : PySem.W.Looks (model X.prog X.w) s.heap (typeOf (.ref a)) cls := fun A Q E s k q => wpAny_typeOf_ref (k _ _ e) (by rw [z.1]; exact q)
  have fit := (PySem.W.exm_one (M := model X.prog X.w) k.inv.kIn tyl hb).here (A := X.A.mark (some (.ref a))) (E := notedBy (model X.prog X.w) (X.A.mark (some (.ref a))) X.env fun x s₁ => R (.error x) s₁)
    (Q := fun b s₂ => R (.ok (if b then .brk else .next)) s₂) (s := s) h
  obtain ⟨hg, hd, hm | ⟨hm, hv, hn⟩⟩ := hc
  · exact ld_glob S hg hm fit hd
  · exact ld_blt S hg hm hv fit hn hd
/-- except x: suite -/
def wCl (K : PySem.W.Frag) (c : Value) (ts : Addr → Value → Option Addr → L2.TS) (wr : Ends → WX) : Ends → WX := fun D cls d σ H =>
  ∃ b, PySem.W.exmOne K cls c = some b ∧ (if b = true then ∀ a, H a = none → ts a cls d D σ H else wr D cls d σ H)
/-- the slot of the clause's name is emptied behind -/
def Ends.gone (i : Nat) (D : Ends) : Ends := { nx := fun σ H => D.nx (σ.set i none) H, rt := D.rt, bk := fun σ H => D.bk (σ.set i none) H, ct := fun σ H => D.ct (σ.set i none) H }
/-- except x as n: suite -/
def wClA (K : PySem.W.Frag) (c : Value) (i : Nat) (ts : Addr → Value → Option Addr → L2.TS) (wr : Ends → WX) : Ends → WX := fun D cls d σ H =>
  ∃ b, PySem.W.exmOne K cls c = some b ∧ (if b = true then ∀ a, H a = none → ts a cls d (Ends.gone i D) (σ.set i (some (.ref a))) H else wr D cls d σ H)
theorem hds_cl {x : Str} {np pos' : Pos} {c : Value} {ts : Addr → Value → Option Addr → L2.TS} {b₀ : Stmt} {su : List Stmt} {hds : List ExceptHandler} {wr : Ends → WX} (hc : Names X x c)
    (hsu : ∀ (a : Addr) (oe : Obj) (cls : Value) (d : Option Addr) (pn : List (Addr × Obj)), Zc cls d oe → (∃ vs, oe.data = .fields vs) → PSs (X.suite a ((a, oe) :: pn)) (b₀ :: su) (ts a cls d)) (r : Hds X hds wr)
    (ok : X.Ok → True := fun _ => trivial) (hs : X.stack = X.env :: X.outer := by rfl) (hf : X.env.frame = some X.env.locals := by rfl) : Hds X (.ExceptHandler (some (.Name x np)) none (b₀ :: su) pos' :: hds) (wCl X.K c ts wr) := by
  rintro pins D σ H cls d a s k ⟨b, hb, w⟩
  refine wpAny_handleBy_cons (hd_test (Q := fun _ _ => True) (E := fun _ _ => True) hc k hs hf hb ?_) (fun q => by cases q)
  cases b with
  | false => exact r pins D σ H cls d a s k w
  | true =>
    refine codeAny_handlers_suite (k.again fun s1 k1 => ?_)
    obtain ⟨oe, ⟨z, dd⟩, _, S⟩ := k1.suite hs hf
    refine wpAny_mono ((hsu a oe cls d (X.pn ++ pins) z dd).run [] s1 σ H _ S (w a k.1)) (fun f s2 q => ?_) (fun _ _ q => False.elim q)
    have back : ∀ {σ2 H2}, Inv (X.suite a ((a, oe) :: (X.pn ++ pins))) [] σ2 H2 s2 → Inv X pins σ2 H2 s2 := fun J => J.unsuite k.inv.ok
    match f, q with
    | .ret u, ⟨v, σ2, H2, J, q⟩ => exact ⟨v, σ2, H2, back J, q⟩
    | .next, ⟨σ2, H2, J, q⟩ => exact ⟨σ2, H2, back J, q⟩
    | .brk, ⟨σ2, H2, J, q⟩ => exact ⟨σ2, H2, back J, q⟩
    | .cont, ⟨σ2, H2, J, q⟩ => exact ⟨σ2, H2, back J, q⟩
theorem hds_as {x n : Str} {np pos' : Pos} {c : Value} {i : Nat} {ts : Addr → Value → Option Addr → L2.TS} {b₀ : Stmt} {su : List Stmt} {hds : List ExceptHandler} {wr : Ends → WX} (hN : X.N.Nodup) (hi : X.N[i]? = some n) (hln : X.env.kindOf n = some .local) (hc : Names X x c)
    (hsu : ∀ (a : Addr) (oe : Obj) (cls : Value) (d : Option Addr) (pn : List (Addr × Obj)), Zc cls d oe → (∃ vs, oe.data = .fields vs) → PSs (X.suite a ((a, oe) :: pn)) (b₀ :: su) (ts a cls d)) (r : Hds X hds wr)
    (hs : X.stack = X.env :: X.outer := by rfl) (hf : X.env.frame = some X.env.locals := by rfl) : Hds X (.ExceptHandler (some (.Name x np)) (some n) (b₀ :: su) pos' :: hds) (wClA X.K c i ts wr) := by
  rintro pins D σ H cls d a s k ⟨b, hb, w⟩
  refine wpAny_handleBy_cons (hd_test (Q := fun _ _ => True) (E := fun _ _ => True) hc k hs hf hb ?_) (fun q => by cases q)
  cases b with
  | false => exact r pins D σ H cls d a s k w
  | true =>
    refine codeAny_handlers_suite_as (k.again fun s1 k1 => ?_)
    obtain ⟨oe, ⟨z, dd⟩, _, S⟩ := k1.suite hs hf
    refine store_ok (X := X.suite a ((a, oe) :: (X.pn ++ pins))) (v := .ref a) S hN hi (.inl hln) rfl (fun s2 S2 => ?_) (.inr hln)
    refine wpAny_mono ((hsu a oe cls d (X.pn ++ pins) z dd).run [] s2 _ H _ S2 (w a k.1)) (fun f s3 q => ?_) (fun _ _ q => False.elim q)
    have back : ∀ {σ3 : L2.St} {H3 : Hp} {Q : Unit → Shared → Prop}, Inv (X.suite a ((a, oe) :: (X.pn ++ pins))) [] σ3 H3 s3 → (∀ s4, Inv X pins (σ3.set i none) H3 s4 → Q () s4) →
      wpAny (model X.prog X.w) X.A (do bindName X.env n .none; unbindBehindTheSuite X.env n pos') Q X.xe s3 := fun J g => gone_ok (J.unsuite k.inv.ok) hN hi hln g
    match f, q with
    | .ret u, ⟨v, σ3, H3, J, q⟩ => exact back J fun s4 J4 => ⟨v, _, H3, J4, q⟩
    | .next, ⟨σ3, H3, J, q⟩ => exact back J fun s4 J4 => ⟨_, H3, J4, q⟩
    | .brk, ⟨σ3, H3, J, q⟩ => exact back J fun s4 J4 => ⟨_, H3, J4, q⟩
    | .cont, ⟨σ3, H3, J, q⟩ => exact back J fun s4 J4 => ⟨_, H3, J4, q⟩
/-- try: body / the clauses -/
theorem ps_tryG {body : List Stmt} {h₀ : ExceptHandler} {hds : List ExceptHandler} {wv : Ends → WX} {tb : WX → L2.TS} {pos : Pos}
    (hb : ∀ (W : WX) (pn : List (Addr × Obj)) (xe : Value → Shared → Prop), Takes (X.tr pn xe) W → PSs (X.tr pn xe) body (tb W)) (hh : Hds X (h₀ :: hds) wv)
    (hs : X.stack = X.env :: X.outer := by rfl) (hf : X.env.frame = some X.env.locals := by rfl) : PS X (.Try body (h₀ :: hds) [] [] pos) (fun D σ H => tb (wv D) D σ H) := by
  constructor
  intro pins s σ H D I h
  have ok := I.ok
  have hfr : X.A.frames = some (X.env :: X.outer) := ok.frames.trans (by rw [hs])
  let xe2 : Value → Shared → Prop := fun e s₁ => wpAny (model X.prog X.w) X.A (noteFrame e X.env) (fun _ s₂ => wpAny (model X.prog X.w) X.A (setFlight e none) (fun _ s₃ =>
    wpAny (model X.prog X.w) X.A (handleBy e X.env (h₀ :: hds)) (SP X pins D) X.xe s₃) X.xe s₂) X.xe s₁
  have tk : Takes (X.tr (X.pn ++ pins) xe2) (wv D) := by
    rintro u s' ⟨a, B, sI, pins', σ', H', cls, d, rfl, J, nb, up, sky, na, os, ag, w⟩
    have sky2 : Sky B (X.env :: X.outer) a (Zc cls d) X.env.locals s'.heap := hs ▸ sky
    refine Sky.land Zc.steady hfr hf sky2 fun h3 fl up3 => ?_
    exact hh pins D σ' H' cls d a { s' with heap := h3 } ⟨na, B, sI, J.ofTry ok, nb, up.trans up3, hs ▸ fl, os, ag⟩ w
  refine wpAny_Try_except (wpAny_mono ((hb (wv D) _ _ tk).run [] s σ H D (I.toTry _) h) (fun f s1 q => ?_) (fun _ _ q => q))
  match f, q with
  | .next, ⟨σ2, H2, J, q⟩ => exact wpAny_execs_nil ⟨σ2, H2, J.ofTry ok, q⟩
  | .ret u, ⟨v, σ2, H2, J, q⟩ => exact ⟨v, σ2, H2, J.ofTry ok, q⟩
  | .brk, ⟨σ2, H2, J, q⟩ => exact ⟨σ2, H2, J.ofTry ok, q⟩
  | .cont, ⟨σ2, H2, J, q⟩ => exact ⟨σ2, H2, J.ofTry ok, q⟩
end
end RM

set_option Elab.async false
set_option linter.all false
set_option maxRecDepth 100000
set_option maxHeartbeats 2000000
/-! sets of texts that can be walked: which texts, not their order -/
namespace RM
open PySem PySem.Spec PyProof.Rows L2 PySem.Froz
/-! ### the table: it rises, and its order is told -/
def Wk (w : World) (t : SetTable) : Prop := Ris t.place.toList ∧ (w.params.followText "set-order" = true ∨ t.led = true)
theorem Wk.of {w : World} {t u : SetTable} (k : Wk w t) (h : Ris t.place.toList → Ris u.place.toList) (e : u.led = t.led) : Wk w u := ⟨h k.1, k.2.imp_right fun l => by rw [e, l]⟩
theorem Wk.tail {w : World} {ep : Nat} {es : Array (Int × Value)} {t : SetTable} {b : Bool} (k : Wk w t) : Wk w (tailTx ep es t b).2.2 := by
  by_cases c : (!b && t.tooFull) = true
  · rw [tailTx, if_pos c]
    exact k.of (fun _ => relayAll_ris t es _) (relayAll_led t es _)
  · rw [tailTx, if_neg c]
    exact k
theorem Wk.add {w : World} {z : Int} {v : Value} {D : SD} (k : Wk w D.2.2) : Wk w (addTx z v D).2.2 := by
  rw [addTx]
  have k1 : Wk w (layNew D.2.2 D.1 z v).2.1 := k.of (layNew_ris D.2.2 D.1 z v) (layNew_led D.2.2 D.1 z v)
  by_cases c : (layNew D.2.2 D.1 z v).2.1.plain = true
  · rw [if_pos c]
    exact Wk.tail (t := { (layNew D.2.2 D.1 z v).2.1 with plain := false }) ⟨k1.1, k1.2⟩
  · rw [if_neg c]
    exact k1.tail
/-! ### what is known of such a set -/
structure Txs (P : Program) (w : World) (D : SD) (l : List Str) : Prop where
  ok : TxOk P w D l
  nd : l.Nodup
  wk : Wk w D.2.2
  few : l.length < scanBound
/-- at a stands a set of the texts l -/
def SX (P : Program) (w : World) (h : Heap) (a : Addr) (l : List Str) : Prop := ∃ D : SD, h.get? a = some (sObj "set" D) ∧ Txs P w D l
/-- an empty set as the world makes it -/
abbrev bareX (w : World) : Obj := { cls := .type "set", dict := none, data := .set #[] 0 (.fresh 0 0 (!w.params.followText "set-order")) }
section
variable {P : Program} {w : World} {h h' : Heap} {a : Addr} {l : List Str}
theorem SX.at (R : SX P w h a l) (k : ∀ o, h.get? a = some o → h'.get? a = some o) : SX P w h' a l := R.imp fun _ q => ⟨k _ q.1, q.2⟩
theorem SX.some (R : SX P w h a l) : ∃ o, h.get? a = some o := let ⟨_, e, _⟩ := R; ⟨_, e⟩
theorem sx_fresh (e : h.get? a = some (bareX w)) : SX P w h a [] := by
  refine ⟨(#[], 0, .fresh 0 0 (!w.params.followText "set-order")), e, .nil rfl, List.nodup_nil, ⟨List.Pairwise.nil, ?_⟩, by decide⟩
  by_cases c : w.params.followText "set-order" = true
  · exact .inl c
  · exact .inr (by show (!w.params.followText "set-order") = true; rw [Bool.not_eq_true] at c; rw [c]; rfl)
end
/-- k put to l, if it isn't there -/
def insX (k : Str) (l : List Str) : List Str := if k ∈ l then l else k :: l
theorem insX_mem {k x : Str} {l : List Str} : x ∈ insX k l ↔ x = k ∨ x ∈ l := by
  rw [insX]
  by_cases c : k ∈ l
  · rw [if_pos c]
    exact ⟨Or.inr, fun z => z.elim (fun e => e ▸ c) id⟩
  · rw [if_neg c, List.mem_cons]
theorem insX_len {k : Str} {l : List Str} : (insX k l).length ≤ l.length + 1 := by
  rw [insX]
  by_cases c : k ∈ l
  · rw [if_pos c]; omega
  · rw [if_neg c]; exact Nat.le_refl _
/-! ### a text put in -/
section
variable {P : Program} {w : World} {A : Around} {E : Value → Shared → Prop} {s : Shared} {a : Addr} {l : List Str} {k : Str} {u : Tok}
theorem texts_at {D : SD} (F : TxOk P w D l) (hk : k ∈ l) : ∃ j, List.findIdx? (fun e => (strKind P w).is k e.2) D.1.toList = some j := by
  obtain ⟨e, he, z⟩ := (F.mem k).mp hk
  rw [← Option.isSome_iff_exists, List.findIdx?_isSome, List.any_eq_true]
  exact ⟨e, he, z⟩
/-- one that is there already: nothing happens -/
theorem again_x {D : SD} {Q : Bool → Shared → Prop} (e : s.heap.get? a = some (sObj "set" D)) (F : Txs P w D l) (hk : k ∈ l) (q : Q false s) : wpAny (model P w) A (setAddHashed a (.str k u) (hashStr w k)) Q E s := by
  obtain ⟨j, hj⟩ := texts_at F.ok hk
  have few : D.1.size < scanBound := by rw [F.ok.sz]; exact F.few
  unfold setAddHashed setAddHashedIn
  refine wpAny_holding (wpAny_bind (wpAny_setState_of (es := D.1) (ep := D.2.1) (t := D.2.2) e rfl F.ok.fit ?_))
  dsimp only
  rw [byScan_of (knd := strKind P w) (x := Value.str k u) rfl few F.ok.el]
  rw [if_pos rfl]
  unfold setAddByScan
  refine wpAny_bind (wpAny_bind (wpAny_rule (wpAny_bind (wpAny_setScan_of (knd := strKind P w) (k := k) (es := D.1) (ep := D.2.1) (t := D.2.2) (is_str k u) e rfl F.ok.fit F.ok.el ?_))))
  rw [hj]
  exact wpAny_pure (wpAny_pure q)
/-- setAdd's step behind the hash -/
theorem put_x {Q : Bool → Shared → Prop} (R : SX P w s.heap a l) (room : l.length + 1 < scanBound) (q : ∀ b h', Heap.SameBut a s.heap h' → SX P w h' a (insX k l) → Q b { s with heap := h' }) :
    wpAny (model P w) A (setAddHashed a (.str k u) (hashStr w k)) Q E s := by
  obtain ⟨D, e, F⟩ := id R
  rw [insX] at q
  by_cases c : k ∈ l
  · rw [if_pos c] at q
    exact again_x e F c (q false s.heap (Heap.SameBut.refl a _) R)
  · rw [if_neg c] at q
    refine add_x e F.ok c room (q true _ (Heap.SameBut.update _ _ _) ⟨_, get_upd _ e rfl, add_ok u F.ok, List.nodup_cons.mpr ⟨c, F.nd⟩, F.wk.add, ?_⟩)
    rw [List.length_cons]
    exact room
/-- the whole of setAdd -/
theorem setAdd_x {Q : Bool → Shared → Prop} (R : SX P w s.heap a l) (room : l.length + 1 < scanBound) (q : ∀ b h', Heap.SameBut a s.heap h' → SX P w h' a (insX k l) → Q b { s with heap := h', toks := s.toks + 1 }) :
    wpAny (model P w) A (setAdd a (.str k u)) Q E s := by
  unfold setAdd
  exact wpAny_holding (wpAny_bind ((strKind P w).pyHash (is_str k u) (put_x (s := { s with toks := s.toks + 1 }) R room q)))
/-- s.add(text) -/
theorem call_add_x {Q : Value → Shared → Prop} (R : SX P w s.heap a l) (room : l.length + 1 < scanBound) (q : ∀ h', Heap.SameBut a s.heap h' → SX P w h' a (insX k l) → Q .none { s with heap := h', toks := s.toks + 1 }) :
    wpAny (model P w) A (call (.builtin "set.add") [.ref a, .str k u]) Q E s := by
  have ty : s.TypeIs (.ref a) "set" := let ⟨_, e, _⟩ := R; ⟨_, e, rfl⟩
  refine wpAny_call_entry F.slot_set_add ty F.entry_set_add ?_ (F.args_set_add_2 _ _)
  show wpAny _ _ (setAdd a (.str k u) >>= fun _ => ret Value.none) _ _ s
  exact wpAny_bind (setAdd_x R room fun _ h' sb r => wpAny_pure ⟨_, rfl, q h' sb r⟩)
end
/-! ### as a tracked thing -/
def SetX (P : Program) (w : World) (a : Addr) (l : List Str) : HO := .ext fun h => SX P w h a l
theorem setX_new {P : Program} {w : World} {H : Hp} {h : Heap} {a : Addr} {l : List Str} (R : SX P w h a l) : ObjOk P w H h a (SetX P w a l) := ⟨R, R.some, fun _ _ p k => SX.at p k⟩
section
variable {X : Cx} {pins : List (Addr × Obj)} {σ : L2.St} {H : Hp} {s : Shared}
theorem Txs.of {a : Addr} {l : List Str} (I : Inv X pins σ H s) (e : H a = some (SetX X.prog X.w a l)) : SX X.prog X.w s.heap a l := (I.hok a _ e).1
theorem addX_ok {E : Value → Shared → Prop} {A : Around} {D : Addr} {l : List Str} {k : Str} {u : Tok} {Q : Value → Shared → Prop} (I : Inv X pins σ H s) (hD : H D = some (SetX X.prog X.w D l)) (room : l.length + 1 < scanBound)
    (q : ∀ s', Inv X pins σ (upd H D (SetX X.prog X.w D (insX k l))) s' → Q .none s') : wpAny (model X.prog X.w) A (call (.builtin "set.add") [.ref D, .str k u]) Q E s :=
  call_add_x (Txs.of I hD) room fun _ sb R => q _ (I.write (by rw [hD]; trivial) (.inl rfl) (fun b o ne e => by rw [sb.2 b ne]; exact e) R.some (setX_new R))
end
end RM

set_option Elab.async false
set_option linter.all false
set_option maxRecDepth 100000
set_option maxHeartbeats 4000000
/-! set comprehensions, clause by clause: one theorem of a clause's loop, whatever stands behind its tests -/
namespace RM
open PySem PySem.Spec PyProof.Rows L2 PpSet
/-- the slots that the block keeps are known still -/
def Kept (σ σ' : L2.St) : Prop := ∀ (j : Nat) v, σ[j]? = some (some v) → σ'[j]? = some (some v)
theorem kept_wipe (σ : L2.St) (vs : List Nat) : Kept (wipe σ vs) σ := fun _ _ e => (wipe_some e).1
theorem kept_less {σ : L2.St} {vs ws : List Nat} (h : ∀ i ∈ ws, i ∈ vs) : Kept (wipe σ vs) (wipe σ ws) := fun j v e => by
  obtain ⟨e1, e2⟩ := wipe_some e
  rw [wipe_out fun z => e2 (h j z), e1]
/-- one turn's text: `work` behind the tests -/
def turnText (e : Expr) (k : Nat) (tg : Expr) (p : Pos) (ifs : List Expr) (work : Sem Unit) (it acc : Value) (env : Env) : Sem Fin :=
  standAt p >>= fun _ => pyNext it >>= fun r => match r with
    | none => pure (.done .next)
    | some v => letOwnedTupleGo tg it v >>= fun _ => assign tg env v >>= fun _ =>
      (forIn ifs true fun c r => if r = true then isTrue c env (eval c env) >>= fun ok => pure (ForInStep.yield ok) else pure (ForInStep.yield r)) >>= fun ok =>
        if ok = true then work >>= fun _ => again (.compLoop e k it acc env) else again (.compLoop e k it acc env)
section
variable {Y : Cx} {elt : Expr} {gens : List Comprehension} {scope : Scope} {pos : Pos} {k : Nat} {tg : Expr} {p : Pos} {ifs : List Expr} {work : Sem Unit} {it : Addr} {acc : Value} {pins : List (Addr × Obj)} {fp : List Addr} {tn : Nat → Heap → Prop} {J : It}
  {g : TG} {tt : TT} {wk : L2.St → Hp → (Hp → Prop) → Prop} {σ0 : L2.St} {vs : List Nat} {W : Nat → Nat → Hp → Prop} {fin : Hp → Prop} {R : Result → Shared → Prop}
theorem clause_loop (hY : Y.xe = fun _ _ => False) (hc : Y.calm = true) (he : compTurn (.SetComp elt gens scope pos) k (.ref it) acc Y.env = turnText (.SetComp elt gens scope pos) k tg p ifs work (.ref it) acc Y.env)
    (T : Turn Y.prog Y.w Y.K tg J fp it tn) (own : ∀ b ∈ fp, ∃ H, FpOk Y pins H b) (pg : PG Y tg g) (pt : PTs Y ifs tt)
    (pw : ∀ pl σ H N s, Inv Y (pins ++ pl) σ H s → wk σ H N → wpAny (model Y.prog Y.w) Y.A work (fun _ s' => ∃ σ' H', Inv Y (pins ++ pl) σ' H' s' ∧ Kept (wipe σ vs) σ' ∧ N H') (fun _ _ => False) s)
    (tu : Turns J g tt wk σ0 vs W fin) (hR : ∀ H s, Inv Y pins σ0 H s → fin H → R (.ok .next) s) {m i : Nat} {H : Hp} {s : Shared} (I : Inv Y pins σ0 H s) (st : tn i s.heap) (fr : ∀ b ∈ fp, H b = none) (w : W i m H) :
    codeAny (model Y.prog Y.w) Y.A (.compLoop (.SetComp elt gens scope pos) k (.ref it) acc Y.env) R s := by
  have out : ∀ {H : Hp}, (∀ b ∈ fp, H b = none) → ∀ b ∈ fp, FpOk Y pins H b := fun f b hb => let ⟨_, z⟩ := own b hb; ⟨f b hb, z.2⟩
  refine codeAny_loop rfl (fun n s' => ∃ i H', Inv Y pins σ0 H' s' ∧ tn i s'.heap ∧ (∀ b ∈ fp, H' b = none) ∧ W i n H') ?_ m ⟨i, H, I, st, fr, w⟩
  clear I st fr w
  rintro n s ⟨i, H, I, st, fr, w⟩
  show wpAny _ Y.A ((compTurn (.SetComp elt gens scope pos) k (.ref it) acc Y.env).onRaise fun x => noteFrame x Y.env >>= fun _ => theTreesLotGoes x) _ _ s
  refine wpAny_noted ?_
  rw [he, turnText]
  refine wpAny_bind (wpAny_standAt (wpAny_bind ?_))
  rcases tu i n H w with ⟨stop, q⟩ | ⟨go, N, hN, step⟩
  · refine thnF (T.done Y rfl rfl rfl hc i pins s σ0 H _ I (out fr) st stop) fun r s1 z => ?_
    rw [z.1]
    exact wpAny_pure (hR H s1 z.2 q)
  refine thnF (T.item Y rfl rfl rfl hc i pins s σ0 H _ I (out fr) st go) fun r s1 z => ?_
  obtain ⟨u, rfl, z⟩ := z
  refine wpAny_bind (thnF z fun _ s2 z => ?_)
  obtain ⟨x, H2, I2, rx, y, st2, fr2⟩ := z
  -- what a turn's end asks
  have fine : ∀ {σ' : L2.St} {H' : Hp} {s' : Shared}, Inv Y (pins ++ pinsAt fp s2.heap) σ' H' s' → Kept σ0 σ' → N H' → ∃ n', n' < n ∧ ∃ i H', Inv Y pins σ0 H' s' ∧ tn i s'.heap ∧ (∀ b ∈ fp, H' b = none) ∧ W i n' H' := by
    intro σ' H' s' I' kp nx
    obtain ⟨n', lt, w'⟩ := hN H' nx
    have stays : ∀ b ∈ fp, ∀ o, s2.heap.get? b = some o → s'.heap.get? b = some o ∧ H' b = none := fun b hb o eo => by
      obtain ⟨p1, p2, _⟩ := I'.pin (b, o) (List.mem_append.mpr (.inr (List.mem_append.mpr (.inr (mem_pinsAt hb eo)))))
      exact ⟨p1, p2⟩
    refine ⟨n', lt, i + 1, H', I'.unpinned.weak (I.len.trans I'.len.symm) kp, T.keep _ _ _ st2 fun b hb o eo => (stays b hb o eo).1, fun b hb => ?_, w'⟩
    obtain ⟨o, eo, _⟩ := T.obj _ _ st2 b hb
    exact (stays b hb o eo).2
  have pgr := pg.run _ s2 σ0 H2 x u _ (I2.pinned (out fr2) (T.obj _ _ st2)) rx (step x H2 y)
  rw [hY] at pgr
  refine wpAny_bind (thnF pgr fun _ s3 z => ?_)
  obtain ⟨σ3, H3, I3, e3, z⟩ := z
  have ptr := pt.run _ s3 σ3 H3 _ I3 z
  rw [hY] at ptr
  refine wpAny_bind (thnF ptr fun b s4 z => ?_)
  obtain ⟨H4, I4, z⟩ := z
  by_cases hb : b = true
  · rw [if_pos hb] at z ⊢
    refine wpAny_bind (thnF (pw _ σ3 H4 N s4 I4 z) fun _ s5 z => ?_)
    obtain ⟨σ5, H5, I5, kp, nx⟩ := z
    exact wpAny_pure ⟨rfl, fine I5 (e3 ▸ kp) nx⟩
  · rw [if_neg hb] at z ⊢
    exact wpAny_pure ⟨rfl, fine I4 (e3 ▸ kept_wipe σ3 vs) z⟩
end
/-- a clause's start: its iterator is asked for itself, or not; the loop then -/
theorem clause_start {P : Program} {w : World} {A : Around} {R : Result → Shared → Prop} {s : Shared} {elt : Expr} {gens : List Comprehension} {scope : Scope} {pos : Pos} {k : Nat} {g : Comprehension} {it acc : Value} {env : Env}
    (hg : gens[k]? = some g) (ha : g.is_async = 0) (self : ∀ (Q : Value → Shared → Prop) (E : Value → Shared → Prop), Q it s → wpAny (model P w) A (pyIter it) Q E s)
    (loop : codeAny (model P w) A (.compLoop (.SetComp elt gens scope pos) k it acc env) R s) : codeAny (model P w) A (.compStart (.SetComp elt gens scope pos) k it acc env) R s := by
  refine codeAny_of_tree ?_
  show wpAny _ A ((compStart (.SetComp elt gens scope pos) k it acc env).onRaise fun x => noteFrame x env >>= fun _ => standAt theWindowsPlace) _ _ s
  refine wpAny_notedAt ?_
  have hk : (clausesOf (.SetComp elt gens scope pos))[k]? = some g := hg
  unfold compStart
  rw [hk]
  have hn : ((some g).elim false fun c : Comprehension => c.is_async != 0) = false := by
    show (g.is_async != 0) = false
    rw [ha]; rfl
  rw [hn]
  show wpAny _ _ (ask >>= _) _ _ s
  refine wpAny_bind (wpAny_askSetting ?_)
  show wpAny _ _ (if w.params.followText "comprehension-iter-twice" = true then _ else _) _ _ s
  by_cases c : w.params.followText "comprehension-iter-twice" = true
  · rw [if_pos c]
    exact wpAny_bind (wpAny_pure (wpAny_pure ⟨rfl, loop⟩))
  · rw [if_neg c]
    exact wpAny_bind (wpAny_rule (wpAny_bind (wpAny_standAt (wpAny_bind (self _ _ (wpAny_pure ⟨rfl, loop⟩))))))
section
variable {X : Cx}
/-- in each block with this scope -/
abbrev InBlk (X : Cx) (scope : Scope) (F : Cx → Prop) : Prop := ∀ s H C cl fp, F (X.blk s H scope (compEnvC scope cl C X.env) fp)
/-- a new text is put to D -/
abbrev addsX (P : Program) (w : World) (D : Addr) (te : TE) : L2.St → Hp → (Hp → Prop) → Prop := fun σ H N => te σ H fun y H1 => ∃ (c : Str) (l : List Str), y = .str c ∧ H1 D = some (SetX P w D l) ∧ l.length + 1 < scanBound ∧ N (upd H1 D (SetX P w D (insX c l)))
/-- a set comprehension's reading: wk, what is done behind the first clause's tests -/
def tBlk (P : Program) (w : World) (wi : TI) (g : TG) (tt : TT) (wk : Addr → L2.St → Hp → (Hp → Prop) → Prop) (vs : List Nat) : TE := fun σ H Q => wi σ H fun J H1 => ∀ D, H1 D = none →
  ∃ W : Nat → Nat → Hp → Prop, (∃ m, W 0 m (upd H1 D (SetX P w D []))) ∧ Turns J g tt (wk D) (wipe σ vs) vs W (Q (.ref D))
theorem set_block {elt tg iter : Expr} {ifs : List Expr} {rest : List Comprehension} {scope : Scope} {own : List (Str × Nat)} {pos : Pos} {wi : TI} {g : TG} {tt : TT} {wk : Addr → L2.St → Hp → (Hp → Prop) → Prop} {work : Addr → Env → Sem Unit}
    (hc : X.calm = true) (hN : X.N.Nodup) (hi : PI X tg iter wi) (ok : BlkOk X.N X.env.scope scope own)
    (hg : InBlk X scope fun Y => PG Y tg g)
    (ht : InBlk X scope fun Y => PTs Y ifs tt)
    (he : ∀ it D env, compTurn (.SetComp elt (⟨tg, iter, ifs, 0⟩ :: rest) scope pos) 0 (.ref it) (.ref D) env = turnText (.SetComp elt (⟨tg, iter, ifs, 0⟩ :: rest) scope pos) 0 tg iter.pos ifs (work D env) (.ref it) (.ref D) env)
    (pw : ∀ (s0 : Shared) (H0 : Hp) (C : Addr) (cl : List (Str × Addr)) (fp : List Addr) (D : Addr) pins σ H N s, Inv (X.blk s0 H0 scope (compEnvC scope cl C X.env) fp) pins σ H s → wk D σ H N →
      wpAny (model X.prog X.w) X.A (work D (compEnvC scope cl C X.env)) (fun _ s' => ∃ σ' H', Inv (X.blk s0 H0 scope (compEnvC scope cl C X.env) fp) pins σ' H' s' ∧ Kept (wipe σ (own.map (·.2))) σ' ∧ N H') (fun _ _ => False) s)
    (hs : ∀ x, foldedSetIterable iter X.env x = pure x) : PE X (.SetComp elt (⟨tg, iter, ifs, 0⟩ :: rest) scope pos) (tBlk X.prog X.w wi g tt wk (own.map (·.2))) := by
  refine ⟨fun pins s σ H Q I h => ?_⟩
  rw [eval_SetComp]
  have free : ∀ y ∈ scope.names, y.2 = .free → ∃ c, X.env.cells.lookup y.1 = some c := fun y hy e => I.ok.has _ (ok.free y hy e)
  refine wpAny_comprehension_free (use := none) rfl hs (closure_ok free) ok.kind (fun y hy e => e ▸ ok.uniq y hy) (thn (hi.run pins s σ H _ I h) fun _ _ z => thn z fun _ s2 z => ?_)
  obtain ⟨it, fp, tn, J, H2, rfl, I2, T, st2, f2, q⟩ := z
  refine newSet_ok (newEnv_comp ?_)
  obtain ⟨W, ⟨m0, w0⟩, tu⟩ := q s2.heap.objs.size (I2.hok.fresh (Nat.le_refl _))
  have I3 := I2.laid (t' := s2.toks) (a := s2.heap.objs.size) (fun b o e => Heap.get?_push_of_some (bareX X.w) e) (Nat.le_refl _) (setX_new (sx_fresh (Heap.get?_push_size _ rfl)))
  have young : ∀ b ∈ fp, b < s2.heap.objs.size := fun b hb => let ⟨_, e, _⟩ := T.obj _ _ st2 b hb; Heap.lt_size e
  have st3 := T.keep 0 _ (s2.heap.push (bareX X.w)) st2 fun b _ o e => Heap.get?_push_of_some _ e
  have f3 : ∀ b ∈ fp, FpOk X pins (upd H2 s2.heap.objs.size (SetX X.prog X.w s2.heap.objs.size [])) b := fun b hb => ⟨by rw [upd_ne (Nat.ne_of_lt (young b hb))]; exact (f2 b hb).1, (f2 b hb).2⟩
  have old : ∀ b ∈ fp, b < (s2.heap.push (bareX X.w)).objs.size := fun b hb => by rw [Heap.size_push]; exact Nat.lt_succ_of_lt (young b hb)
  generalize upd H2 s2.heap.objs.size (SetX X.prog X.w s2.heap.objs.size []) = H3 at I3 f3 w0
  generalize s2.heap.objs.size = D at I3 tu ⊢
  generalize hs3 : ({ s2 with heap := s2.heap.push (bareX X.w) } : Shared) = s3 at I3
  have e3 : s3.heap = s2.heap.push (bareX X.w) := by rw [← hs3]
  rw [← e3] at st3 old
  have I4 := block_start I3 ok hN fun b hb => ⟨f3 b hb, old b hb⟩
  have st4 := T.keep 0 _ (pushCells (s3.heap.push { cls := .type "dict", data := .dict #[] }) scope.names) st3 fun b _ o e => pushCells_keeps _ _ _ _ (Heap.get?_push_of_some _ e)
  show codeAny _ _ (.compStart _ 0 (.ref it) (.ref D) (compEnvC scope (cellsFrom (s3.heap.objs.size + 1) scope.names (cloFrom X.env.cells scope.names [])) s3.heap.objs.size X.env)) _
    { s3 with heap := pushCells (s3.heap.push { cls := .type "dict", data := .dict #[] }) scope.names }
  refine clause_start rfl rfl (fun _ _ z => T.self X.A 0 _ _ _ st4 z) ?_
  refine clause_loop (Y := X.blk s3 H3 scope (compEnvC scope (cellsFrom (s3.heap.objs.size + 1) scope.names (cloFrom X.env.cells scope.names [])) s3.heap.objs.size X.env) fp) rfl hc (he _ _ _) T
    (fun b hb => ⟨H3, (f3 b hb).1, (I4.ok.exf b hb).1, I4.ok.exfs b hb, .inl hb, fun x c e => (I4.ok.exf b hb).2 x c e, fun p hp => (List.not_mem_nil (show p ∈ ([] : List (Addr × Obj)) from hp)).elim⟩) (hg _ _ _ _ _) (ht _ _ _ _ _) (fun pl σ' H' N s' I' z => pw _ _ _ _ _ D _ _ _ _ _ I' z) tu (fun H' s' I' q => ?_) I4 st4 (fun b hb => (f3 b hb).1) w0
  -- back in the def
  have J' := I3.call' (ch := fp) I'.os I'.base I'.hok I'.bare fun b hb => let ⟨_, z1, _, z3, z4, z5⟩ := f3 b hb; ⟨z3, z1, z4, z5⟩
  obtain ⟨m, hm, _⟩ := I'.loc
  obtain ⟨n0, n1, n2, n3, n4, n5⟩ := I3.fpOk (H' := H') (Nat.le_refl _) I'.free
  exact ⟨m, hm, fun h'' sb => ⟨.ref D, H', J'.turned (t' := s'.toks) (fun b o hb e => (sb.2 b hb).trans e) n0 n1 n3 n4 n5, rfl, q⟩⟩
/-- the element's text, then its add -/
def emitX (elt : Expr) (D : Addr) (env : Env) : Sem Unit := eval elt env >>= fun v => standAt elt.pos >>= fun _ => call (.builtin "set.add") [.ref D, v] >>= fun _ => pure ()
theorem emits {Y : Cx} {elt : Expr} {te : TE} {D : Addr} {vs : List Nat} (hY : Y.xe = fun _ _ => False) (he : PE Y elt te) {pins σ H N s} (I : Inv Y pins σ H s) (h : addsX Y.prog Y.w D te σ H N) :
    wpAny (model Y.prog Y.w) Y.A (emitX elt D Y.env) (fun _ s' => ∃ σ' H', Inv Y pins σ' H' s' ∧ Kept (wipe σ vs) σ' ∧ N H') (fun _ _ => False) s := by
  have r := he.run pins s σ H _ I h
  rw [hY] at r
  refine wpAny_bind (thnF r fun v s1 z => wpAny_bind (wpAny_standAt (wpAny_bind ?_)))
  obtain ⟨_, H1, I1, rv, c, l, rfl, e, room, nx⟩ := z
  obtain ⟨u, rfl⟩ := (show ∃ u, v = Value.str c u from rv)
  exact addX_ok I1 e room fun s2 I2 => wpAny_pure ⟨σ, _, I2, kept_wipe σ vs, nx⟩
/-- {elt for tg in iter if ..} -/
abbrev tScX (P : Program) (w : World) (wi : TI) (g : TG) (tt : TT) (te : TE) (vs : List Nat) : TE := tBlk P w wi g tt (fun D => addsX P w D te) vs
theorem pe_scX {elt tg iter : Expr} {ifs : List Expr} {scope : Scope} {own : List (Str × Nat)} {pos : Pos} {wi : TI} {g : TG} {tt : TT} {te : TE} (hc : X.calm = true) (hN : X.N.Nodup) (hi : PI X tg iter wi) (ok : BlkOk X.N X.env.scope scope own)
    (hg : InBlk X scope fun Y => PG Y tg g)
    (ht : InBlk X scope fun Y => PTs Y ifs tt)
    (he : InBlk X scope fun Y => PE Y elt te) (hs : ∀ x, foldedSetIterable iter X.env x = pure x := by intro _; rfl) :
    PE X (.SetComp elt [⟨tg, iter, ifs, 0⟩] scope pos) (tScX X.prog X.w wi g tt te (own.map (·.2))) :=
  set_block (work := emitX elt) hc hN hi ok hg ht (fun _ _ _ => rfl) (fun s0 H0 C cl fp D pins σ H N s I h => emits (Y := X.blk s0 H0 scope (compEnvC scope cl C X.env) fp) rfl (he _ _ _ _ _) I h) hs
/-- {elt for tg in iter if .. for tg1 in iter1 if ..}: vs1, the second target's slots -/
abbrev tScX2 (P : Program) (w : World) (wi : TI) (g : TG) (tt : TT) (wi1 : TI) (g1 : TG) (tt1 : TT) (te : TE) (vs vs1 : List Nat) : TE :=
  tBlk P w wi g tt (fun D σ H N => wi1 σ H fun J1 H1 => ∃ W1 : Nat → Nat → Hp → Prop, (∃ m, W1 0 m H1) ∧ Turns J1 g1 tt1 (addsX P w D te) (wipe σ vs1) vs1 W1 N) vs
def innerX (e : Expr) (iter1 : Expr) (D : Addr) (env : Env) : Sem Unit :=
  eval iter1 env >>= fun x => standAt iter1.pos >>= fun _ => foldedSetIterable iter1 env x >>= fun x => holding [x] (pyIter x) >>= fun t => runOwn (.compStart e 1 t (.ref D) env) env >>= fun _ => pure ()
theorem turn_inner {elt tg iter tg1 iter1 : Expr} {ifs ifs1 : List Expr} {scope : Scope} {pos : Pos} {it D : Addr} {env : Env} : compTurn (.SetComp elt [⟨tg, iter, ifs, 0⟩, ⟨tg1, iter1, ifs1, 0⟩] scope pos) 0 (.ref it) (.ref D) env =
    turnText (.SetComp elt [⟨tg, iter, ifs, 0⟩, ⟨tg1, iter1, ifs1, 0⟩] scope pos) 0 tg iter.pos ifs (innerX (.SetComp elt [⟨tg, iter, ifs, 0⟩, ⟨tg1, iter1, ifs1, 0⟩] scope pos) iter1 D env) (.ref it) (.ref D) env := by
  rw [turnText]
  simp only [innerX, bind_assoc, pure_bind]
  rfl
theorem pe_scX2 {elt tg iter tg1 iter1 : Expr} {ifs ifs1 : List Expr} {scope : Scope} {own : List (Str × Nat)} {vs1 : List Nat} {pos : Pos} {wi wi1 : TI} {g g1 : TG} {tt tt1 : TT} {te : TE} (hc : X.calm = true) (hN : X.N.Nodup) (hi : PI X tg iter wi) (ok : BlkOk X.N X.env.scope scope own) (hv : ∀ i ∈ vs1, i ∈ own.map (·.2))
    (hg : InBlk X scope fun Y => PG Y tg g)
    (ht : InBlk X scope fun Y => PTs Y ifs tt)
    (hi1 : InBlk X scope fun Y => PI Y tg1 iter1 wi1)
    (hg1 : InBlk X scope fun Y => PG Y tg1 g1)
    (ht1 : InBlk X scope fun Y => PTs Y ifs1 tt1)
    (he : InBlk X scope fun Y => PE Y elt te) (hs : ∀ x, foldedSetIterable iter X.env x = pure x := by intro _; rfl) (hs1 : ∀ env x, foldedSetIterable iter1 env x = pure x := by intro _ _; rfl) :
    PE X (.SetComp elt [⟨tg, iter, ifs, 0⟩, ⟨tg1, iter1, ifs1, 0⟩] scope pos) (tScX2 X.prog X.w wi g tt wi1 g1 tt1 te (own.map (·.2)) vs1) := by
  refine set_block (work := innerX (.SetComp elt [⟨tg, iter, ifs, 0⟩, ⟨tg1, iter1, ifs1, 0⟩] scope pos) iter1) hc hN hi ok hg ht (fun _ _ _ => turn_inner) (fun s0 H0 C cl fp D pins σ H N s I h => ?_) hs
  refine wpAny_bind (thnF ((hi1 s0 H0 C cl fp).run pins s σ H _ I h) fun x s1 z => wpAny_bind (wpAny_standAt (wpAny_bind (wpAny_of_eq (hs1 _ x) (wpAny_bind (wpAny_holding (thnF z fun t s2 z => ?_)))))))
  obtain ⟨it, fp1, tn, J, H2, rfl, I2, T, st, f, W, ⟨m, w0⟩, tu⟩ := z
  refine wpAny_bind (wpAny_runOwn ?_)
  rw [Around.mark_none]
  exact clause_start rfl rfl (fun _ _ z => T.self X.A 0 _ _ _ st z) (clause_loop (Y := X.blk s0 H0 scope (compEnvC scope cl C X.env) fp) rfl hc (work := emitX elt D (compEnvC scope cl C X.env)) rfl T (fun b hb => ⟨H2, f b hb⟩) (hg1 _ _ _ _ _) (ht1 _ _ _ _ _)
    (fun pl σ' H' N' s' I' z => emits (Y := X.blk s0 H0 scope (compEnvC scope cl C X.env) fp) rfl (he _ _ _ _ _) I' z) tu (fun H' s' I' nx => wpAny_pure ⟨_, H', I', kept_less hv, nx⟩) (I2.weak (wipe_length _ _) (kept_wipe σ vs1)) st (fun b hb => (f b hb).1) w0)
end
end RM

set_option Elab.async false
set_option linter.all false
set_option maxRecDepth 100000
set_option maxHeartbeats 2000000
/-! sorted(a set of texts) -/
namespace RM
open PySem PySem.Spec PyProof.Rows L2 PySem.Froz
/-! ### texts among values -/
def Text (v : Value) : Prop := ∃ k u, v = .str k u
theorem texts_are : ∀ {l : List Value}, (∀ v ∈ l, Text v) → StrsAre l (l.map strOf)
  | [], _ => .nil
  | _ :: _, h => by
    obtain ⟨h1, h2⟩ := List.forall_mem_cons.mp h
    obtain ⟨k, u, rfl⟩ := h1
    exact .cons k u (texts_are h2)
/-- as many, and nothing lacks: the same -/
theorem perm_of_sub : ∀ {l m : List Str}, l.Nodup → (∀ k ∈ l, k ∈ m) → m.length ≤ l.length → m.Perm l
  | [], m, _, _, h => by rw [List.eq_nil_of_length_eq_zero (Nat.le_zero.mp h)]
  | a :: l, m, nd, sub, h => by
    have ha := sub a List.mem_cons_self
    have el := List.length_erase_of_mem ha
    have ep := List.length_pos_of_mem ha
    obtain ⟨na, nd⟩ := List.nodup_cons.mp nd
    refine (List.perm_cons_erase ha).trans ((perm_of_sub nd (fun k hk => ?_) ?_).cons a)
    · have ne : k ≠ a := by rintro rfl; exact na hk
      exact (List.mem_erase_of_ne ne).mpr (sub k (List.mem_cons_of_mem _ hk))
    · rw [List.length_cons] at h; omega
theorem Txs.values {P : Program} {w : World} {D : SD} {l : List Str} (F : Txs P w D l) {vs : List Value} (p : vs.Perm (D.1.toList.map (·.2))) : StrsAre vs (vs.map strOf) ∧ (vs.map strOf).Perm l := by
  have shape : ∀ {k : Str} {v : Value}, (strKind P w).is k v = true → ∃ u, v = .str k u := fun h => Value.isStrOf_shape h
  refine ⟨texts_are fun v hv => ?_, perm_of_sub F.nd (fun k hk => ?_) ?_⟩
  · obtain ⟨e, he, rfl⟩ := List.mem_map.mp (p.mem_iff.mp hv)
    obtain ⟨⟨k, h1, _⟩, _⟩ := F.ok.el e he
    exact ⟨k, shape h1⟩
  · obtain ⟨e, he, h1⟩ := (F.ok.mem k).mp hk
    obtain ⟨u, h2⟩ := shape h1
    exact List.mem_map.mpr ⟨.str k u, p.mem_iff.mpr (List.mem_map.mpr ⟨e, he, h2⟩), rfl⟩
  · rw [List.length_map, p.length_eq, List.length_map, Array.length_toList, F.ok.sz]
    exact Nat.le_refl _
/-! ### sorted, of whatever gives texts -/
section
variable {P : Program} {w : World} {A : Around} {E : Value → Shared → Prop} {s : Shared}
theorem sorted_texts {x : Value} {ks : List Str} {Q : Value → Shared → Prop} (few : ks.length ≤ 1000)
    (gives : wpAny (model P w) A.in1 (collect x) (fun vs s1 => StrsAre vs (vs.map strOf) ∧ (vs.map strOf).Perm ks ∧
      ∀ ys us h' c, StrsAre us ys → ys.Perm ks → sortedS ys = true → (∀ b o, s1.heap.get? b = some o → h'.get? b = some o) → h'.get? s1.heap.objs.size = some (seqObj "list" us.toArray c) → Q (.ref s1.heap.objs.size) { s1 with heap := h' }) E s) :
    wpAny (model P w) A (call (.builtin "sorted") [x]) Q E s := by
  refine Calls.call_function_entry kind_sorted plain_sorted entry_sorted (args_sorted1 _) ?_
  unfold Builtin.«sorted»
  refine wpAny_bind (m := checkCount "sorted" 1 1 _) (wpAny_pure (wpAny_bind (thn gives fun vs s1 z => ?_)))
  obtain ⟨hS, pk, q⟩ := z
  have sz : vs.length ≤ sizeLine := by
    have e := pk.length_eq
    rw [List.length_map] at e
    rw [e, sizeLine_eq]; omega
  refine wpAny_bind (wpAny_newList ?_ sz)
  have at_ : (s1.heap.push (seqObj "list" vs.toArray 0)).get? s1.heap.objs.size = some (seqObj "list" vs.toArray 0) := Heap.get?_push_size _ rfl
  refine wpAny_bind (wpAny_holding (wpAny_call_entry slot_list_sort ⟨_, at_, rfl⟩ entry_list_sort (list_sort_treeKAny strKind_oneLt at_ hS.keysOf (fun _ _ _ e => keyKind_strs (e ▸ hS)) sz fun st' hp hs => ⟨_, rfl, ?_⟩) (args_list_sort _)))
  obtain ⟨ys, h1, h2, h3⟩ := sorted_out_str hS hp hs
  obtain ⟨c, hc⟩ := sortedHeap_at (vs := vs) (out := (arrOf st').map (·.2)) at_
  refine wpAny_pure ⟨_, rfl, q ys _ _ c h1 (h2.trans pk) h3 (fun b o e => ?_) (by rw [Array.toArray_toList]; exact hc)⟩
  have lt := Heap.lt_size e
  rw [sortedHeap_old (Nat.ne_of_lt lt) (by rw [size_push']; exact Nat.lt_succ_of_lt lt)]
  exact Heap.get?_push_of_some _ e
end
def rSortX (P : Program) (w : World) : List V → Hp → VK → Prop := fun xs H Q => ∃ (a : Addr) (l : List Str), xs = [V.ref a] ∧ H a = some (SetX P w a l) ∧ l.length ≤ 1000 ∧
  ∀ (ks : List Str) (p : Addr), ks.Perm l → l.Nodup → sortedS ks = true → H p = none → Q (.ref p) (upd H p (.lst (ks.map V.str)))
theorem cr_sortX {X : Cx} (hc : X.calm = true) : CallR X (.builtin "sorted") (rSortX X.prog X.w) := by
  rintro pins s σ H xs us Q I r ⟨a, l, rfl, e, few, q⟩
  rw [Vals.ref1 r]
  obtain ⟨D, ho, F⟩ := Txs.of I e
  refine sorted_texts few (collect_set (A := X.A.in1) (es := D.1) (ep := D.2.1) (t := D.2.2) (I.ok.hd hc) ⟨_, ho, rfl, rfl⟩ F.ok.fit (by rw [F.ok.sz]; exact F.few) F.wk.1 F.wk.2 fun s1 vs keep _ gs os pm => ?_)
  obtain ⟨t1, t2⟩ := F.values pm
  refine ⟨t1, t2, fun ys us' h' c h1 h2 h3 keep' at_ => ?_⟩
  have I1 : Inv X pins σ H s1 := I.call' (ch := []) os (Un.kept keep) (I.hok.kept keep) (by rw [gs]; exact I.bare) (fun _ z => nomatch z)
  have sz : (ys.map V.str).length ≤ sizeLine := by rw [List.length_map, h2.length_eq, sizeLine_eq]; omega
  exact ⟨.ref s1.heap.objs.size, _, I1.laid (t' := s1.toks) (o := .lst (ys.map V.str)) keep' (Nat.le_refl _) ⟨sz, us', c, vals_of_strs h1, at_⟩, rfl, q ys _ h2 F.nd h3 (I1.hok.fresh (Nat.le_refl _))⟩
end RM

set_option Elab.async false
set_option linter.all false
set_option maxRecDepth 100000
set_option maxHeartbeats 4000000
/-! set(a list of texts) -/
namespace RM
open PySem PySem.Spec PyProof.Rows L2 PySem.Froz
/-- the texts r put to l, one after another -/
def pour : List Str → List Str → List Str
  | [], l => l
  | k :: r, l => pour r (insX k l)
theorem pour_mem {k : Str} : ∀ {r l : List Str}, k ∈ pour r l ↔ k ∈ r ∨ k ∈ l
  | [], l => by simp [pour]
  | a :: r, l => by rw [pour, pour_mem, insX_mem, List.mem_cons]; grind
theorem pour_len : ∀ {r l : List Str}, (pour r l).length ≤ r.length + l.length
  | [], l => by simp [pour]
  | a :: r, l => by
    have := pour_len (r := r) (l := insX a l)
    have := insX_len (k := a) (l := l)
    rw [pour, List.length_cons]
    omega
section
variable {P : Program} {w : World} {A : Around} {R : Result → Shared → Prop} {I S : Addr} {s : Shared}
/-- one turn of the builtin's loop -/
theorem loop_turn (h : wpAny (model P w) A.in1 (pyNext (.ref I)) (fun r s1 => match r with
      | none => R (.ok (.ret .none)) s1
      | some v => wpAny (model P w) A.in1 (setAdd S v) (fun _ s2 => codeAny (model P w) A (.builtin "set.update.loop" ⟨[.ref S, .ref I], []⟩) R s2) (fun e s' => R (.error e) s') s1) (fun e s' => R (.error e) s') s) :
    codeAny (model P w) A (.builtin "set.update.loop" ⟨[.ref S, .ref I], []⟩) R s := by
  refine codeAny_builtin F.entry_set_update_loop ?_
  rw [Around.under_plainId F.plain_set_update_loop _]
  show wpAny _ A.in1 (pyNext (.ref I) >>= _) _ _ s
  refine wpAny_bind (wpAny_mono h (fun r s1 z => ?_) fun _ _ z => z)
  match r, z with
  | none, z => exact wpAny_pure z
  | some v, z => exact wpAny_bind (wpAny_holding (wpAny_mono z (fun _ _ y => wpAny_pure ⟨plainId_quiet F.plain_set_update_loop _, y⟩) fun _ _ y => y))
variable {fp wr : List Addr} {G : Array GenState → Array GenState → Prop} {n : Nat} {Pv : Nat → Value → Prop} {St : Nat → Shared → Prop}
theorem loop_x (W : WalksS P w A.in1 I fp wr G n Pv St) (hS : S ∉ fp) {zs : List Str} (hn : n = zs.length) (hv : ∀ i v, Pv i v → ∃ k u, zs[i]? = some k ∧ v = .str k u) :
    ∀ (r : List Str) (i : Nat) (l : List Str) (s : Shared), zs.drop i = r → i ≤ zs.length → St i s → SX P w s.heap S l → l.length + r.length < scanBound →
      (∀ s', Moved (S :: wr) G s s' → SX P w s'.heap S (pour r l) → R (.ok (.ret .none)) s') → codeAny (model P w) A (.builtin "set.update.loop" ⟨[.ref S, .ref I], []⟩) R s := by
  have out : S ∉ wr := fun h => hS (W.sub _ h)
  have more : ∀ b ∈ wr, b ∈ S :: wr := fun _ hb => List.mem_cons_of_mem _ hb
  intro r
  induction r with
  | nil =>
    intro i l s hd hi st sx _ q
    have e : i = n := by have := List.drop_eq_nil_iff.mp hd; omega
    subst e
    refine loop_turn (W.done s _ _ st fun s1 mv => ?_)
    exact q s1 (mv.mono more) (sx.at fun o e => mv.heap S o out e)
  | cons z r ih =>
    intro i l s hd hi st sx room q
    rw [List.length_cons] at room
    have lt : i < n := by
      have := congrArg List.length hd
      rw [List.length_drop, List.length_cons] at this
      omega
    have hz : zs[i]? = some z := by rw [← List.head?_drop, hd]; rfl
    have hd' : zs.drop (i + 1) = r := by rw [← List.tail_drop, hd]; rfl
    refine loop_turn (W.item i s _ _ lt st fun v s1 hp st1 mv => ?_)
    obtain ⟨k, u, hk, rfl⟩ := hv i v hp
    obtain rfl : z = k := by rw [hz] at hk; exact Option.some.inj hk
    refine setAdd_x (sx.at fun o e => mv.heap S o out e) (by omega) fun _ h' sb sx2 => ?_
    have ne : ∀ b ∈ fp, b ≠ S := fun b hb e => hS (e ▸ hb)
    refine ih (i + 1) _ _ hd' (by omega) (W.frame _ s1 _ _ st1 (Nat.le_succ _) fun b hb o e => by rw [sb.2 b (ne b hb)]; exact e) sx2 (by have := insX_len (k := z) (l := l); omega) fun s2 mv2 sx3 => ?_
    refine q s2 (Moved.trans W.gtrans ((mv.mono more).then_heap (Nat.le_succ _) fun b o hb e => ?_) mv2) sx3
    rw [sb.2 b fun e => hb (e ▸ List.mem_cons_self)]
    exact e
end
section
variable {P : Program} {w : World} {A : Around} {E : Value → Shared → Prop} {s : Shared} {S l : Addr} {items : Array Value} {zs : List Str}
/-- the values of a list of texts, place by place -/
theorem text_at (ht : StrsAre items.toList zs) {i : Nat} {v : Value} (e : items[i]? = some v) : ∃ k u, zs[i]? = some k ∧ v = .str k u := by
  rw [← Array.getElem?_toList] at e
  obtain ⟨k, u, rfl⟩ := ht.all v (List.mem_of_getElem? e)
  refine ⟨k, u, ?_, rfl⟩
  rw [← ht.strs, List.getElem?_map, e]
  rfl
theorem no_set {a : Addr} {Q : Bool → Shared → Prop} (ty : s.TypeIs (.ref a) "list") (q : Q false s) : wpAny (model P w) A (Builtin.Frozenset.isAnySet (.ref a)) Q E s := by
  unfold Builtin.Frozenset.isAnySet
  refine wpAny_bind (wpAny_isInstance ty F.sub_list_set ?_)
  exact wpAny_isInstance ty F.sub_list_frozenset q
/-- an empty set is filled from a list of texts -/
theorem update_x {name : String} {Q : Unit → Shared → Prop} (hh : A.handled = none) (hS : s.heap.get? S = some (bareX w)) (hl : s.heap.IsList l items) (ht : StrsAre items.toList zs) (room : zs.length < scanBound)
    (q : ∀ s', (∀ b o, b ≠ S → s.heap.get? b = some o → s'.heap.get? b = some o) → s'.gens = s.gens → s'.drawn = s.drawn → s'.os = s.os → SX P w s'.heap S (pour zs []) → Q () s') :
    wpAny (model P w) A (Builtin.Frozenset.updateFrom name S (.ref l)) Q E s := by
  have sz : items.size = zs.length := by rw [← Array.length_toList]; exact ht.length
  have ltS := Heap.lt_size hS
  have ty : s.TypeIs (.ref l) "list" := let ⟨_, e, c, _⟩ := hl; ⟨_, e, c⟩
  have ltl : l < s.heap.objs.size := let ⟨_, e, _⟩ := hl; Heap.lt_size e
  have neSl : S ≠ l := by
    rintro rfl
    obtain ⟨o, ho, hcl, _⟩ := hl
    rw [hS] at ho
    cases ho
    exact absurd (show Value.type "set" = Value.type "list" from hcl) (by decide)
  unfold Builtin.Frozenset.updateFrom
  refine wpAny_bind (no_set ty ?_)
  rw [if_neg Bool.false_ne_true]
  refine wpAny_bind (wpAny_typeOf ty ?_)
  rw [if_neg (by decide)]
  refine wpAny_bind (wpAny_pyIter_list hl (wpAny_bind (wpAny_runValue ?_)))
  have W := (Walks.list (prog := P) (w := w) (A := A.in1) (by simp [hh]) s.heap.objs.size l (Nat.ne_of_lt ltl) items).toS
  refine loop_x W ?_ sz (fun i v e => text_at ht e) zs 0 [] _ rfl (Nat.zero_le _) ⟨⟨_, Heap.get?_push_size _ rfl, rfl, rfl⟩, hl.push _⟩ (sx_fresh (Heap.get?_push_of_some _ hS)) (by simp; omega) fun s' mv sx => ?_
  · simp only [List.mem_cons, List.not_mem_nil, or_false, not_or]
    exact ⟨Nat.ne_of_lt ltS, neSl⟩
  · refine wpAny_pure (q s' (fun b o ne e => mv.heap b o ?_ (Heap.get?_push_of_some _ e)) mv.gens mv.drawn mv.os sx)
    simp only [List.mem_cons, List.not_mem_nil, or_false, not_or]
    exact ⟨ne, Nat.ne_of_lt (Heap.lt_size e)⟩
theorem init_x {Q : PySem.Fin → Shared → Prop} (hh : A.handled = none) (hS : s.heap.get? S = some (bareX w)) (hl : s.heap.IsList l items) (ht : StrsAre items.toList zs) (room : zs.length < scanBound)
    (q : ∀ s', (∀ b o, b ≠ S → s.heap.get? b = some o → s'.heap.get? b = some o) → s'.gens = s.gens → s'.drawn = s.drawn → s'.os = s.os → SX P w s'.heap S (pour zs []) → Q (.done (.ret .none)) s') :
    wpAny (model P w) A (Builtin.«set.__init__» ⟨[.ref S, .ref l], []⟩) Q E s := by
  have ty : s.TypeIs (.ref S) "set" := ⟨_, hS, rfl⟩
  unfold Builtin.«set.__init__» noKeywords
  generalize hU : @Builtin.Frozenset.updateFrom = U
  wp_walk
  subst hU
  refine update_x hh hS hl ht room fun s' k1 k2 k3 k4 sx => ?_
  exact wpAny_pure (q s' k1 k2 k3 k4 sx)
/-- what `set(l)` hands back -/
theorem call_set_x {Q : Value → Shared → Prop} (hh : A.handled = none) (hl : s.heap.IsList l items) (ht : StrsAre items.toList zs) (room : zs.length < scanBound)
    (q : ∀ s', (∀ b o, s.heap.get? b = some o → s'.heap.get? b = some o) → s'.gens = s.gens → s'.drawn = s.drawn → s'.os = s.os → SX P w s'.heap s.heap.objs.size (pour zs []) → Q (.ref s.heap.objs.size) s') :
    wpAny (model P w) A (call (.type "set") [.ref l]) Q E s := by
  obtain ⟨_, _, line⟩ := F.called_set.mro
  have maker := F.called_set.made
  have below := F.called_set.sub
  have plain := F.called_set.notType
  have can := F.called_set.canCreate
  have count := F.typeCall_set_1 (.ref l)
  refine wpAny_call (codeAny_of_tree (wpAny_pure ⟨Code.quiet_builtin _ (by decide +kernel), codeAny_builtin F.entry_type_call ?_⟩))
  rw [Around.under_plain (weight_type_call_type "set" [.ref l] []) rfl]
  repeat (any_goals (first | assumption | wp_step))
  refine codeAny_mono (code_set_led1 (.ref l) (E := E) (Q₁ := fun v s1 => v = .ref s.heap.objs.size ∧ s1 = { s with heap := s.heap.push (bareX w) }) ⟨rfl, rfl⟩) fun r s1 z => ?_
  match r, z with
  | .error _, z => exact z
  | .ok .next, z => exact z.elim
  | .ok .brk, z => exact z.elim
  | .ok .cont, z => exact z.elim
  | .ok (.ret _), z =>
  obtain ⟨rfl, rfl⟩ := z
  have hS : (s.heap.push (bareX w)).get? s.heap.objs.size = some (bareX w) := Heap.get?_push_size _ rfl
  have ty : Shared.TypeIs { s with heap := s.heap.push (bareX w) } (.ref s.heap.objs.size) "set" := ⟨_, hS, rfl⟩
  have first := F.called_set.init.lookup
  have bound := F.called_set.init.bind (.ref s.heap.objs.size)
  repeat (any_goals (first | assumption | wp_step))
  refine codeAny_mono (codeAny_call_builtin (R := wants (fun v s2 => v = .none ∧ Q (.ref s.heap.objs.size) s2) E) F.called_set.init.plain F.entry_set_init (check_set_init_1 ty ?_)) fun r s2 z => ?_
  · refine init_x ?_ hS (hl.push _) ht room fun s2 k1 k2 k3 k4 sx => ⟨rfl, q s2 (fun b o e => k1 b o (Nat.ne_of_lt (Heap.lt_size e)) (Heap.get?_push_of_some _ e)) k2 k3 k4 sx⟩
    simp [hh]
  · match r, z with
    | .error _, z => exact z
    | .ok .next, z => exact z.elim
    | .ok .brk, z => exact z.elim
    | .ok .cont, z => exact z.elim
    | .ok (.ret _), z =>
    obtain ⟨rfl, qq⟩ := z
    repeat (any_goals (first | assumption | wp_step))
end
/-! ### over the tracked heap -/
def rSetL (P : Program) (w : World) (K : PySem.W.Frag) : List V → Hp → VK → Prop := fun xs H Q => ∃ (a : Addr) (zs : List Str), xs = [V.ref a] ∧ SqL K H a (zs.map V.str) ∧ zs.length + 1 < scanBound ∧
  ∀ (l : List Str) (p : Addr), l.length ≤ zs.length → (∀ k, k ∈ l ↔ k ∈ zs) → H p = none → Q (.ref p) (upd H p (SetX P w p l))
theorem cr_setL {X : Cx} (hc : X.calm = true) : CallR X (.type "set") (rSetL X.prog X.w X.K) := by
  rintro pins s σ H xs us Q I r ⟨a, zs, rfl, hs, hb, q⟩
  rw [Vals.ref1 r]
  obtain ⟨its, rv, hl, hz⟩ := I.list hs
  refine call_set_x (I.ok.hd hc) hl.isList (show StrsAre its.toArray.toList zs from rv.strs) (by omega) fun s' k1 k2 k3 k4 sx => ?_
  obtain ⟨h', _, _, t', _⟩ := s'
  cases k2
  cases k3
  cases k4
  have len := pour_len (r := zs) (l := [])
  exact ⟨.ref s.heap.objs.size, _, I.laid (t' := t') k1 (Nat.le_refl _) (setX_new sx), rfl, q _ _ (by simpa using len) (fun k => by rw [pour_mem]; simp) (I.hok.fresh (Nat.le_refl _))⟩
end RM

set_option Elab.async false
set_option linter.all false
set_option maxRecDepth 100000
set_option maxHeartbeats 2000000
/-! own == of instances -/
namespace RM
open PySem PySem.Spec PyProof.Rows L2
section
variable (P : Program) (w : World) (K : PySem.W.Frag) (mg : Str → Option Value) (base : Heap)
/-- an own special method, met by an operator -/
def Own (k : Nat) (C : Addr) (m : Str) (sp : Sp) : Prop :=
  ∃ (f : Addr) (fd : FuncData) (ps : List Str), FnOk P w K mg base CX0 k f fd ps sp ∧ PySem.W.findIn K (.ref C) m = some (some (.ref f)) ∧ PySem.W.isFn K (.ref f) = true ∧ Binds K fd ps []
end
section
variable {P : Program} {w : World} {K : PySem.W.Frag} {mg : Str → Option Value} {base : Heap} {k : Nat} {m x : Str} {C : Addr} {sp : Sp}
theorem own_0 {qual : Str} {st : Stmt} {N ps : List Str} (F : ∃ fd, FunD K m qual (defArgs st) (defBody st) (defScope st) [] [] (He.ma K (He.ga K x) m) fd) (hs : spcB K x m = true) (S : FnScope N ps (defScope st))
    (hb : ∀ (kV doc pm : Value) (an : Option Addr) (cdv ct : Value) (us : List Value), us.length = ps.length → bindArgs (PySem.W.fnOf m qual (defArgs st) (defBody st) (defScope st) .none kV doc pm an cdv ct) ⟨us, []⟩ = pure (ps.zip us))
    (len : ∀ vs H Q E, sp vs H Q E → vs.length = ps.length) (h : Body0 P w K mg base N qual st (He.ma K (He.ga K x) m) k sp) : Own P w K mg base (k + 1) (He.ga K x) m sp :=
  let ⟨fd, F⟩ := F
  ⟨_, fd, ps, fn_0 F S len h, (spcB_ok hs).1, (spcB_ok hs).2, F.bindsN hb⟩
end
theorem room64 {k : Nat} {A : Around} (hr : Room k A) : A.units + 64 < cLine := by have := hr.un; omega
theorem not_ni {z : V} {u : Value} (r : RelV z u) : u ≠ .notImplemented := by
  intro e
  subst e
  cases z <;> simp [L2.RelV] at r
/-- x == y, the two of one own class -/
def rOwn (C : Addr) (sp : Sp) : R2 := fun x y H Q => ∃ a b dx dy fs gs, x = .ref a ∧ y = .ref b ∧ H a = some (.ins C dx fs) ∧ H b = some (.ins C dy gs) ∧ sp [x, y] H Q E0
section
variable {X : Cx} {k j : Nat} {C : Addr} {sp : Sp}
/-- a def called with what stands for vs -/
theorem ask_def {f : Addr} {fd : FuncData} {ps : List Str} {pins : List (Addr × Obj)} {σ : L2.St} {H : Hp} {s : Shared} {vs : List V} {us : List Value} {Q : VK} (F : FnOk X.prog X.w X.K X.mg X.base CX0 k f fd ps sp) (B : Binds X.K fd ps []) (hr : Room k X.A)
    (I : Inv X pins σ H s) (r : Vals vs us) (same : us.length = vs.length) (h : sp vs H Q E0) : wpAny (model X.prog X.w) X.A (call (.ref f) us) (EP X pins σ Q) X.xe s := by
  have given := B s us I.kIn
  rw [List.append_nil] at given
  refine wpAny_call (codeAny_mono (F.run X.A X.stack s H ⟨us, []⟩ us vs _ E0 hr I.env0 (given (same.trans (F.len _ _ _ _ h))) r h) fun out s1 z => ?_)
  match out, z with
  | .ok (.ret _), z => exact I.after z
  | .error _, z => exact pass0 pins σ H s _ s1 I z
  | .ok .next, z => exact z.elim
  | .ok .brk, z => exact z.elim
  | .ok .cont, z => exact z.elim
theorem op_ownEq (c : Own X.prog X.w X.K X.mg X.base k C "__eq__" sp) (hr : Room j X.A) (hk : k ≤ j := by omega) : OpR X (compareOp .Eq) (rOwn C sp) := by
  rintro pins s σ H _ _ v u Q I rx ry ⟨a, b, dx, dy, fs, gs, rfl, rfl, ha, hb, hsp⟩
  obtain ⟨f, fd, ps, F, hs, hf, B⟩ := c
  cases rx
  cases ry
  obtain ⟨_, ia, _⟩ := ins_get I.hok ha
  obtain ⟨_, ib, _⟩ := ins_get I.hok hb
  obtain ⟨_, la, _⟩ := ia.look
  obtain ⟨_, lb, _⟩ := ib.look
  have un := (hr.mono hk).un
  refine PySem.W.cmp_K (op := .Eq) (tb := .ref C) (by omega) I.fr.choose_spec I.ok.mod.kin la lb.type (by simp [PySem.W.notFirst]) hs hf (thn (ask_def (vs := [.ref a, .ref b]) F B (hr.mono hk) I (.cons rfl (.cons rfl .nil)) rfl hsp) fun r s1 z => ?_)
  obtain ⟨z, H1, I1, rz, q⟩ := z
  have some := not_ni rz
  cases r <;> first | exact absurd rfl some | exact ⟨z, H1, I1, rz, q⟩
end
/-- a sequence as it stands in a block -/
theorem pi_seqA' {X : Cx} {K : PySem.W.Frag} {tg l : Expr} {tl : TE} (hK : X.K = K) (hl : PE X l tl) : PI X tg l (iSeqA K tl) := by subst hK; exact pi_seqA hl
end RM

set_option Elab.async false
set_option linter.all false
set_option maxRecDepth 100000
set_option maxHeartbeats 2000000
/-! own + of two own classes -/
namespace RM
open PySem PySem.Spec PyProof.Rows L2
section
open PySem.W
variable {M : Model} {h : Heap} {K : Frag} {C f : Addr} {nm : String} {r : Option Value}
/-- the class's slot is a def -/
theorem slot_def (X : K.In h) (hs : findIn K (.ref C) (PySem.dunder nm) = some (some (.ref f))) (hr : findIn K (.ref C) (dunderR nm) = some r) (rr : r = none ∨ ∃ g, r = some (.ref g)) : Looks M h (numberSlotInPython (.ref C) nm) true := by
  intro A Q E s k q
  unfold numberSlotInPython
  refine wpAny_bind (looks_findIn X hs A _ E s k ?_)
  refine wpAny_bind (wpAny_pure ?_)
  refine wpAny_bind (looks_findIn X hr A _ E s k ?_)
  rcases rr with rfl | ⟨g, rfl⟩
  · exact wpAny_bind (wpAny_pure (by rw [if_pos (by rfl)]; exact wpAny_pure q))
  · exact wpAny_bind (wpAny_pure (by rw [if_pos (by rfl)]; exact wpAny_pure q))
theorem self_first (hc : selfFirst K C = true) : ∃ cd rest, clsIn K C = some cd ∧ cd.mro = .ref C :: rest := by
  unfold selfFirst at hc
  cases e : clsIn K C with
  | none => rw [e] at hc; cases hc
  | some cd =>
    rw [e] at hc
    cases q : cd.mro with
    | nil => simp [q] at hc
    | cons a r =>
      have : a = .ref C := by simpa [q] using hc
      exact ⟨cd, r, rfl, by rw [q, this]⟩
theorem binop_two {prog : Program} {w : World} {A : Around} {E : Value → Shared → Prop} {s : Shared} {x L D fD : Addr} {h₀ : Heap} {m : Str → Option Value} {ox : Obj} {od : Option Obj} {b : Value} {rC rD : Option Value} {Q : Value → Shared → Prop}
    (F : Fr h₀ L s.heap m) (X₀ : K.In h₀) (I : InstAt s.heap x ox C od) (hb : Looks (model prog w) s.heap (typeOf b) (.ref D)) (hne : D ≠ C) (hc : selfFirst K C = true) (hd : selfFirst K D = true) (hs : findIn K (.ref C) (PySem.dunder "add") = some (some (.ref f)))
    (hf : isFn K (.ref f) = true) (hsD : findIn K (.ref D) (PySem.dunder "add") = some (some (.ref fD))) (hrC : findIn K (.ref C) (dunderR "add") = some rC) (hrD : findIn K (.ref D) (dunderR "add") = some rD) (rC' : rC = none ∨ ∃ g, rC = some (.ref g)) (rD' : rD = none ∨ ∃ g, rD = some (.ref g))
    (sub : subIn K (.ref D) (.ref C) = some false) (h : wpAny (model prog w) A (call (.ref f) [.ref x, b]) (PySem.W.CmpBack Q) E s) : wpAny (model prog w) A (binaryOp .Add (.ref x) b) Q E s := by
  have X := X₀.keeps F.keep
  obtain ⟨cd, rest, hcd, hm⟩ := self_first hc
  obtain ⟨dd, rest2, hdd, hm2⟩ := self_first hd
  unfold binaryOp
  refine wpAny_holding (wpAny_bind ?_)
  unfold binaryOp1
  refine wpAny_bind (I.type.here (wpAny_bind (hb.here (wpAny_bind ((fills_K X hcd hm hs).here ?_)))))
  have nb : (Value.ref C == Value.ref D) = false := by simpa using fun e => hne e.symm
  simp only [nb, Bool.false_eq_true, if_false]
  refine wpAny_bind ((fills_K X hdd hm2 hsD).here ?_)
  simp only [Bool.and_self, if_true]
  refine wpAny_bind ((looks_subIn X sub).here ?_)
  simp only [Bool.false_eq_true, if_false, Bool.not_false, Bool.and_self, if_true]
  refine wpAny_bind ((slot_def X hs hrC rC').here ?_)
  simp only [if_true]
  refine wpAny_bind ((slot_def X hsD hrD rD').here ?_)
  simp only [Bool.not_true, Bool.false_eq_true, if_false]
  refine wpAny_bind (m := tryMethod (.ref x) _ b) ?_
  unfold tryMethod
  refine wpAny_bind (special_fn X I hs (beq_iff_eq.mp hf) (wpAny_mono h (fun v s' hv => ?_) fun _ _ e => e))
  cases v <;> first | exact hv.elim | exact wpAny_pure (wpAny_pure (wpAny_pure hv))
end
/-- what the head tells for x + y, x of the class at C, y of the one at D -/
def twoB (K : PySem.W.Frag) (x y : Str) : Bool :=
  let C := He.ga K x; let D := He.ga K y
  PySem.W.selfFirst K C && (PySem.W.selfFirst K D && (decide (D ≠ C) && (spcB K x "__add__" && (spcB K y "__add__" && (decide (PySem.W.subIn K (.ref D) (.ref C) = some false) &&
    ((He.eqO (PySem.W.findIn K (.ref C) "__radd__") (some none) || spcB K x "__radd__") && (He.eqO (PySem.W.findIn K (.ref D) "__radd__") (some none) || spcB K y "__radd__")))))))
/-- x + y, two own classes; E: what is wanted of an exception -/
def rAddX (C D : Addr) (sp : Sp) (E : XK) : R2 := fun x y H Q => ∃ a b dx dy fs gs, x = .ref a ∧ y = .ref b ∧ H a = some (.ins C dx fs) ∧ H b = some (.ins D dy gs) ∧ sp [x, y] H Q E
/-- an own special method that may raise -/
def OwnX (P : Program) (w : World) (K : PySem.W.Frag) (mg : Str → Option Value) (base : Heap) (k : Nat) (C : Addr) (m : Str) (sp : Sp) : Prop :=
  ∃ (f : Addr) (fd : FuncData) (ps : List Str), FnOk P w K mg base (L2.CX P w) k f fd ps sp ∧ PySem.W.findIn K (.ref C) m = some (some (.ref f)) ∧ PySem.W.isFn K (.ref f) = true ∧ Binds K fd ps []
theorem own_X {P : Program} {w : World} {K : PySem.W.Frag} {mg : Str → Option Value} {base : Heap} {k : Nat} {m x : Str} {sp : Sp} {qual : Str} {st : Stmt} {N ps : List Str} (F : ∃ fd, FunD K m qual (defArgs st) (defBody st) (defScope st) [] [] (He.ma K (He.ga K x) m) fd) (hs : spcB K x m = true) (S : FnScope N ps (defScope st))
    (hb : ∀ (kV doc pm : Value) (an : Option Addr) (cdv ct : Value) (us : List Value), us.length = ps.length → bindArgs (PySem.W.fnOf m qual (defArgs st) (defBody st) (defScope st) .none kV doc pm an cdv ct) ⟨us, []⟩ = pure (ps.zip us))
    (len : ∀ vs H Q E, sp vs H Q E → vs.length = ps.length) (h : BodyX P w K mg base N qual st (He.ma K (He.ga K x) m) k sp) : OwnX P w K mg base (k + 1) (He.ga K x) m sp :=
  let ⟨fd, F⟩ := F
  ⟨_, fd, ps, F.ok S len h, (spcB_ok hs).1, (spcB_ok hs).2, F.bindsN hb⟩
theorem radd_of {K : PySem.W.Frag} {x : Str} (h : (He.eqO (PySem.W.findIn K (.ref (He.ga K x)) "__radd__") (some none) || spcB K x "__radd__") = true) :
    ∃ r, PySem.W.findIn K (.ref (He.ga K x)) (dunderR "add") = some r ∧ (r = none ∨ ∃ g, r = some (.ref g)) := by
  rcases Bool.or_eq_true_iff.mp h with h | h
  · exact ⟨none, He.eqO_ok h, .inl rfl⟩
  · exact ⟨_, (spcB_ok h).1, .inr ⟨_, rfl⟩⟩
theorem op_addX {X : Cx} {k j : Nat} {x y : Str} {sp : Sp} {E : XK} (two : twoB X.K x y = true) (c : OwnX X.prog X.w X.K X.mg X.base k (He.ga X.K x) "__add__" sp) (hx : Passes (L2.CX X.prog X.w) X E) (hr : Room j X.A) (hk : k ≤ j := by omega) :
    OpR X (binaryOp .Add) (rAddX (He.ga X.K x) (He.ga X.K y) sp E) := by
  rintro pins s σ H _ _ v u Q I rx ry ⟨a, b, dx, dy, fs, gs, rfl, rfl, ha, hb, hsp⟩
  obtain ⟨f, fd, ps, F, hs, hf, B⟩ := c
  obtain ⟨t1, two⟩ := He.ba two
  obtain ⟨t2, two⟩ := He.ba two
  obtain ⟨t3, two⟩ := He.ba two
  obtain ⟨t4, two⟩ := He.ba two
  obtain ⟨t5, two⟩ := He.ba two
  obtain ⟨t6, two⟩ := He.ba two
  obtain ⟨t7, t8⟩ := He.ba two
  obtain ⟨rC, hrC, kC⟩ := radd_of t7
  obtain ⟨rD, hrD, kD⟩ := radd_of t8
  cases rx
  cases ry
  obtain ⟨_, ia, _⟩ := ins_get I.hok ha
  obtain ⟨_, ib, _⟩ := ins_get I.hok hb
  obtain ⟨_, la, _⟩ := ia.look
  obtain ⟨_, lb, _⟩ := ib.look
  refine binop_two I.fr.choose_spec I.ok.mod.kin la lb.type (of_decide_eq_true t3) t1 t2 hs hf (spcB_ok t5).1 hrC hrD kC kD (of_decide_eq_true t6) ?_
  refine thn (run_fn (vs := [.ref a, .ref b]) (dvs := []) (ds := []) F (hr.mono hk) B .nil hx I (.cons rfl (.cons rfl .nil)) hsp) fun r s1 z => ?_
  obtain ⟨z, H1, I1, rz, q⟩ := z
  have some := not_ni rz
  cases r <;> first | exact absurd rfl some | exact ⟨z, H1, I1, rz, q⟩
end RM

set_option Elab.async false
set_option linter.all false
set_option maxRecDepth 100000
set_option maxHeartbeats 2000000
/-! own special methods: in, [], len, +=, [] =, + of one class -/
namespace RM
open PySem PySem.Spec PyProof.Rows L2
section
variable (P : Program) (w : World) (K : PySem.W.Frag) (mg : Str → Option Value) (base : Heap) (CX : CXT)
/-- an own special method, whatever it lets out -/
def OwnC (k : Nat) (C : Addr) (m : Str) (sp : Sp) : Prop :=
  ∃ (f : Addr) (fd : FuncData) (ps : List Str), FnOk P w K mg base CX k f fd ps sp ∧ PySem.W.findIn K (.ref C) m = some (some (.ref f)) ∧ PySem.W.isFn K (.ref f) = true ∧ Binds K fd ps [] ∧ PySem.W.fnIn K f = true
end
section
variable {P : Program} {w : World} {K : PySem.W.Frag} {mg : Str → Option Value} {base : Heap} {k : Nat} {m x : Str} {C : Addr} {sp : Sp} {CX : CXT}
theorem fn_in {q : Str} {ar : Arguments} {bd : List Stmt} {sc : Scope} {dv : List V} {kw : List (Str × V)} {f : Addr} {fd : FuncData} (F : FunD K m q ar bd sc dv kw f fd) : PySem.W.fnIn K f = true := by
  obtain ⟨_, _, _, _, _, _, _, _, _, _, _, lk, _⟩ := F.ex
  unfold PySem.W.fnIn
  rw [lk]
theorem own_C0 {qual : Str} {st : Stmt} {N ps : List Str} (F : ∃ fd, FunD K m qual (defArgs st) (defBody st) (defScope st) [] [] (He.ma K (He.ga K x) m) fd) (hs : spcB K x m = true) (S : FnScope N ps (defScope st))
    (hb : ∀ (kV doc pm : Value) (an : Option Addr) (cdv ct : Value) (us : List Value), us.length = ps.length → bindArgs (PySem.W.fnOf m qual (defArgs st) (defBody st) (defScope st) .none kV doc pm an cdv ct) ⟨us, []⟩ = pure (ps.zip us))
    (len : ∀ vs H Q E, sp vs H Q E → vs.length = ps.length) (h : Body0 P w K mg base N qual st (He.ma K (He.ga K x) m) k sp) : OwnC P w K mg base CX0 (k + 1) (He.ga K x) m sp :=
  let ⟨fd, F⟩ := F
  ⟨_, fd, ps, fn_0 F S len h, (spcB_ok hs).1, (spcB_ok hs).2, F.bindsN hb, fn_in F⟩
theorem own_CX {qual : Str} {st : Stmt} {N ps : List Str} (F : ∃ fd, FunD K m qual (defArgs st) (defBody st) (defScope st) [] [] (He.ma K (He.ga K x) m) fd) (hs : spcB K x m = true) (S : FnScope N ps (defScope st))
    (hb : ∀ (kV doc pm : Value) (an : Option Addr) (cdv ct : Value) (us : List Value), us.length = ps.length → bindArgs (PySem.W.fnOf m qual (defArgs st) (defBody st) (defScope st) .none kV doc pm an cdv ct) ⟨us, []⟩ = pure (ps.zip us))
    (len : ∀ vs H Q E, sp vs H Q E → vs.length = ps.length) (h : BodyX P w K mg base N qual st (He.ma K (He.ga K x) m) k sp) : OwnC P w K mg base (L2.CX P w) (k + 1) (He.ga K x) m sp :=
  let ⟨fd, F⟩ := F
  ⟨_, fd, ps, F.ok S len h, (spcB_ok hs).1, (spcB_ok hs).2, F.bindsN hb, fn_in F⟩
/-- nothing is let out where nothing is wished of it -/
theorem fn_calm {f : Addr} {fd : FuncData} {ps : List Str} (F : FnOk P w K mg base (L2.CX P w) k f fd ps sp) : FnOk P w K mg base CX0 k f fd ps (fun vs H Q _ => sp vs H Q E0) := by
  refine ⟨fun vs H Q E h => F.len vs H Q E0 h, fun A outer s H args us vs Q E hr e0 hb r h => ?_⟩
  refine codeAny_mono (F.run A outer s H args us vs Q E0 hr e0 hb r h) fun out s1 z => ?_
  match out, z with
  | .ok (.ret _), z => exact z
  | .ok .next, z => exact z
  | .ok .brk, z => exact z
  | .ok .cont, z => exact z
  | .error e, z =>
    obtain ⟨_, _, _, _, _, _, _, _, _, _, _, _, no⟩ := z
    exact no.elim
theorem Cal.calm {x : Str} (c : Cal P w K mg base (L2.CX P w) k x sp) : Cal P w K mg base CX0 k x (fun vs H Q _ => sp vs H Q E0) := let ⟨f, fd, ps, F, a, b, d⟩ := c; ⟨f, fd, ps, fn_calm F, a, b, d⟩
theorem Met.calm (c : Met P w K mg base (L2.CX P w) k C m sp) : Met P w K mg base CX0 k C m (fun vs H Q _ => sp vs H Q E0) := let ⟨f, fd, ps, a, b, F, d⟩ := c; ⟨f, fd, ps, a, b, fn_calm F, d⟩
theorem Mak.calm {x : Str} (c : Mak P w K mg base (L2.CX P w) k x C sp) : Mak P w K mg base CX0 k x C (fun vs H Q _ => sp vs H Q E0) := let ⟨f, fd, ps, a, F, b, d⟩ := c; ⟨f, fd, ps, a, fn_calm F, b, d⟩
theorem OwnC.calm (c : OwnC P w K mg base (L2.CX P w) k C m sp) : OwnC P w K mg base CX0 k C m (fun vs H Q _ => sp vs H Q E0) := let ⟨f, fd, ps, F, a⟩ := c; ⟨f, fd, ps, fn_calm F, a⟩
theorem OwnX.calm (c : OwnX P w K mg base k C m sp) : Own P w K mg base k C m (fun vs H Q _ => sp vs H Q E0) := let ⟨f, fd, ps, F, a⟩ := c; ⟨f, fd, ps, fn_calm F, a⟩
end
section
variable {X : Cx} {CX : CXT} {k j : Nat} {C : Addr} {sp : Sp} {E : XK}
/-- a def called one level in -/
theorem ask_in1 {f : Addr} {fd : FuncData} {ps : List Str} {pins : List (Addr × Obj)} {σ : L2.St} {H : Hp} {s : Shared} {vs : List V} {us : List Value} {Q : VK} (F : FnOk X.prog X.w X.K X.mg X.base CX k f fd ps sp) (B : Binds X.K fd ps []) (hr : Room (k + 1) X.A) (hx : Passes CX X E)
    (I : Inv X pins σ H s) (r : Vals vs us) (h : sp vs H Q E) : wpAny (model X.prog X.w) X.A.in1 (call (.ref f) us) (EP X pins σ Q) X.xe s := by
  have len : us.length = ps.length := by rw [← r.length]; exact F.len _ _ _ _ h
  have given := B s us I.kIn (by rw [List.append_nil]; exact len)
  rw [List.append_nil] at given
  refine wpAny_call (codeAny_mono (F.run X.A.in1 X.stack s H ⟨us, []⟩ us vs Q E hr.in1 I.env0.in1 given r h) fun out s1 z => ?_)
  match out, z with
  | .ok (.ret _), z => exact I.after z
  | .error e, z => exact hx pins σ H s e s1 I z
  | .ok .next, z => exact z.elim
  | .ok .brk, z => exact z.elim
  | .ok .cont, z => exact z.elim
/-- x in y, y of an own class -/
def rInO (C : Addr) (sp : Sp) (E : XK) (neg : Bool) : R2 := fun x y H Q => ∃ b dy gs, y = .ref b ∧ H b = some (.ins C dy gs) ∧ sp [y, x] H (fun v H' => ∃ c, v = .bl c ∧ Q (.bl (if neg then !c else c)) H') E
theorem op_inO (c : OwnC X.prog X.w X.K X.mg X.base CX k C "__contains__" sp) (hx : Passes CX X E) (hr : Room j X.A) (hk : k ≤ j := by omega) : OpR X (compareOp .In) (rInO C sp E false) := by
  rintro pins s σ H x _ v u Q I rx ry ⟨b, dy, gs, rfl, hb, h⟩
  obtain ⟨f, fd, ps, F, hs, hf, B, _⟩ := c
  cases ry
  obtain ⟨_, ib, _⟩ := ins_get I.hok hb
  obtain ⟨_, lb, _⟩ := ib.look
  refine PySem.W.in_K I.fr.choose_spec I.ok.mod.kin lb hs hf (thn (run_fn (vs := [.ref b, x]) (dvs := []) (ds := []) F (hr.mono hk) B .nil hx I (.cons rfl (.cons rx .nil)) h) fun r s1 z => ?_)
  obtain ⟨_, H1, I1, rz, c, rfl, q⟩ := z
  cases rz
  exact wpAny_truthy_bool ⟨.bl c, H1, I1, rfl, q⟩
theorem op_ninO (c : OwnC X.prog X.w X.K X.mg X.base CX k C "__contains__" sp) (hx : Passes CX X E) (hr : Room j X.A) (hk : k ≤ j := by omega) : OpR X (compareOp .NotIn) (rInO C sp E true) := by
  rintro pins s σ H x _ v u Q I rx ry ⟨b, dy, gs, rfl, hb, h⟩
  obtain ⟨f, fd, ps, F, hs, hf, B, _⟩ := c
  cases ry
  obtain ⟨_, ib, _⟩ := ins_get I.hok hb
  obtain ⟨_, lb, _⟩ := ib.look
  refine PySem.W.notIn_K I.fr.choose_spec I.ok.mod.kin lb hs hf (thn (run_fn (vs := [.ref b, x]) (dvs := []) (ds := []) F (hr.mono hk) B .nil hx I (.cons rfl (.cons rx .nil)) h) fun r s1 z => ?_)
  obtain ⟨_, H1, I1, rz, c, rfl, q⟩ := z
  cases rz
  exact wpAny_truthy_bool ⟨.bl (!c), H1, I1, rfl, q⟩
/-- a[b], a of an own class -/
def tGetO (C : Addr) (sp : Sp) (E : XK) (ta tb : TE) : TE := fun σ H Q => ta σ H fun x H1 => tb σ H1 fun y H2 => ∃ a dx fs, x = .ref a ∧ H2 a = some (.ins C dx fs) ∧ sp [x, y] H2 Q E
theorem pe_getO {a b : Expr} {ta tb : TE} {pos : Pos} (c : OwnC X.prog X.w X.K X.mg X.base CX k C "__getitem__" sp) (hx : Passes CX X E) (hr : Room j X.A) (ha : PE X a ta) (hb : PE X b tb) (hk : k + 1 ≤ j := by omega)
    (hsl : ∀ v u, subscripted b true v u = runValue (.builtin "lifetime.subscript" ⟨[v, u], []⟩) := by intro _ _; rfl) : PE X (.Subscript a b pos) (tGetO C sp E ta tb) := by
  obtain ⟨f, fd, ps, F, hs, hf, B, hn⟩ := c
  refine ⟨fun pins s σ H Q I h => ?_⟩
  refine Subscript_ (thn (ha.run pins s σ H _ I h) fun v s1 ⟨x, H1, I1, rx, h1⟩ => thn (hb.run pins s1 σ H1 _ I1 h1) fun u s2 ⟨y, H2, I2, ry, h2⟩ => ?_)
  obtain ⟨p, dx, fs, rfl, hp, h3⟩ := h2
  cases rx
  obtain ⟨_, ip, _⟩ := ins_get I2.hok hp
  obtain ⟨_, lp, _⟩ := ip.look
  exact PySem.W.sub_K I2.fr.choose_spec I2.ok.mod.kin lp hs hn hf (ask_in1 (vs := [.ref p, y]) F B (hr.mono hk) hx I2 (.cons rfl (.cons ry .nil)) h3) (hsl _ _)
/-- len(x), x of an own class -/
theorem call_lenO (c : OwnC X.prog X.w X.K X.mg X.base CX k C "__len__" sp) (hx : Passes CX X E) (hr : Room j X.A) (hk : k + 1 ≤ j := by omega) :
    CallR X (.builtin "len") (fun xs H Q => ∃ a dx fs, xs = [.ref a] ∧ H a = some (.ins C dx fs) ∧ sp [.ref a] H (fun v H' => ∃ n : Int, v = .int n ∧ 0 ≤ n ∧ n < 2 ^ 63 ∧ Q (.int n) H') E) := by
  rintro pins s σ H xs us Q I r ⟨a, dx, fs, rfl, ha, h⟩
  obtain ⟨f, fd, ps, F, hs, hf, B, _⟩ := c
  obtain rfl := Vals.ref1 r
  obtain ⟨_, ia, _⟩ := ins_get I.hok ha
  obtain ⟨_, la, _⟩ := ia.look
  refine PySem.W.len_K I.fr.choose_spec I.ok.mod.kin la hs hf (thn (ask_in1 (vs := [.ref a]) F B (hr.mono hk) hx I (.cons rfl .nil) h) fun r s1 z => ?_)
  obtain ⟨_, H1, I1, rz, n, rfl, n0, n1, q⟩ := z
  obtain ⟨t, rfl⟩ := rz
  exact ⟨⟨n0, n1⟩, .int n, H1, I1.tok _, ⟨_, rfl⟩, q⟩
/-- x += y, x of an own class -/
def rIadO (C : Addr) (sp : Sp) (E : XK) : R2 := fun x y H Q => ∃ a dx fs, x = .ref a ∧ H a = some (.ins C dx fs) ∧ sp [x, y] H Q E
theorem in_addO (c : OwnC X.prog X.w X.K X.mg X.base CX k C "__iadd__" sp) (sf : PySem.W.selfFirst X.K C = true) (hx : Passes CX X E) (hr : Room j X.A) (hk : k ≤ j := by omega) : InOp X .Add (rIadO C sp E) := by
  rintro pins s σ H _ y u v Q I rx ry ⟨a, dx, fs, rfl, ha, h⟩
  obtain ⟨f, fd, ps, F, hs, hf, B, _⟩ := c
  cases rx
  obtain ⟨_, ia, _⟩ := ins_get I.hok ha
  obtain ⟨_, la, _⟩ := ia.look
  refine PySem.W.ksp_inplace I.fr.choose_spec I.ok.mod.kin la sf hs hf (thn (run_fn (vs := [.ref a, y]) (dvs := []) (ds := []) F (hr.mono hk) B .nil hx I (.cons rfl (.cons ry .nil)) h) fun r s1 z => ?_)
  obtain ⟨z, H1, I1, rz, q⟩ := z
  have some := not_ni rz
  cases r <;> first | exact absurd rfl some | exact ⟨z, H1, I1, rz, q⟩
/-- x + y, both of one own class -/
def rAddS (C : Addr) (sp : Sp) (E : XK) : R2 := fun x y H Q => ∃ a b dx dy fs gs, x = .ref a ∧ y = .ref b ∧ H a = some (.ins C dx fs) ∧ H b = some (.ins C dy gs) ∧ sp [x, y] H Q E
theorem op_addS (c : OwnC X.prog X.w X.K X.mg X.base CX k C "__add__" sp) (sf : PySem.W.selfFirst X.K C = true) (hx : Passes CX X E) (hr : Room j X.A) (hk : k ≤ j := by omega) : OpR X (binaryOp .Add) (rAddS C sp E) := by
  rintro pins s σ H _ _ v u Q I rx ry ⟨a, b, dx, dy, fs, gs, rfl, rfl, ha, hb, h⟩
  obtain ⟨f, fd, ps, F, hs, hf, B, _⟩ := c
  cases rx
  cases ry
  obtain ⟨_, ia, _⟩ := ins_get I.hok ha
  obtain ⟨_, ib, _⟩ := ins_get I.hok hb
  obtain ⟨_, la, _⟩ := ia.look
  obtain ⟨_, lb, _⟩ := ib.look
  refine PySem.W.binop_K I.fr.choose_spec I.ok.mod.kin la lb.type sf hs hf (thn (run_fn (vs := [.ref a, .ref b]) (dvs := []) (ds := []) F (hr.mono hk) B .nil hx I (.cons rfl (.cons rfl .nil)) h) fun r s1 z => ?_)
  obtain ⟨z, H1, I1, rz, q⟩ := z
  have some := not_ni rz
  cases r <;> first | exact absurd rfl some | exact ⟨z, H1, I1, rz, q⟩
end
theorem two_first {K : PySem.W.Frag} {x y : Str} (h : twoB K x y = true) : PySem.W.selfFirst K (He.ga K x) = true ∧ PySem.W.selfFirst K (He.ga K y) = true := let ⟨a, b⟩ := He.ba h; ⟨a, (He.ba b).1⟩
theorem op_addG {X : Cx} {CX : CXT} {k j : Nat} {x y : Str} {sp : Sp} {E : XK} (two : twoB X.K x y = true) (c : ∃ (f : Addr) (fd : FuncData) (ps : List Str), FnOk X.prog X.w X.K X.mg X.base CX k f fd ps sp ∧ PySem.W.findIn X.K (.ref (He.ga X.K x)) "__add__" = some (some (.ref f)) ∧ PySem.W.isFn X.K (.ref f) = true ∧ Binds X.K fd ps []) (hx : Passes CX X E) (hr : Room j X.A) (hk : k ≤ j := by omega) :
    OpR X (binaryOp .Add) (rAddX (He.ga X.K x) (He.ga X.K y) sp E) := by
  rintro pins s σ H _ _ v u Q I rx ry ⟨a, b, dx, dy, fs, gs, rfl, rfl, ha, hb, hsp⟩
  obtain ⟨f, fd, ps, F, hs, hf, B⟩ := c
  obtain ⟨t1, two⟩ := He.ba two
  obtain ⟨t2, two⟩ := He.ba two
  obtain ⟨t3, two⟩ := He.ba two
  obtain ⟨t4, two⟩ := He.ba two
  obtain ⟨t5, two⟩ := He.ba two
  obtain ⟨t6, two⟩ := He.ba two
  obtain ⟨t7, t8⟩ := He.ba two
  obtain ⟨rC, hrC, kC⟩ := radd_of t7
  obtain ⟨rD, hrD, kD⟩ := radd_of t8
  cases rx
  cases ry
  obtain ⟨_, ia, _⟩ := ins_get I.hok ha
  obtain ⟨_, ib, _⟩ := ins_get I.hok hb
  obtain ⟨_, la, _⟩ := ia.look
  obtain ⟨_, lb, _⟩ := ib.look
  refine binop_two I.fr.choose_spec I.ok.mod.kin la lb.type (of_decide_eq_true t3) t1 t2 hs hf (spcB_ok t5).1 hrC hrD kC kD (of_decide_eq_true t6) ?_
  refine thn (run_fn (vs := [.ref a, .ref b]) (dvs := []) (ds := []) F (hr.mono hk) B .nil hx I (.cons rfl (.cons rfl .nil)) hsp) fun r s1 z => ?_
  obtain ⟨z, H1, I1, rz, q⟩ := z
  have some := not_ni rz
  cases r <;> first | exact absurd rfl some | exact ⟨z, H1, I1, rz, q⟩
end RM

set_option Elab.async false
set_option linter.all false
set_option maxRecDepth 100000
set_option maxHeartbeats 2000000
/-! x != y of an own class with == alone -/
namespace RM
open PySem PySem.Spec PyProof.Rows L2
section
open PySem.W
variable {prog : Program} {w : World} {A : Around} {E : Value → Shared → Prop} {s : Shared} {K : Frag} {x y C L f : Addr} {h₀ : Heap} {m : Str → Option Value} {ox : Obj} {od : Option Obj}
theorem check_ne {M : Model} {Q : Unit → Shared → Prop} (X : K.In s.heap) (I : InstAt s.heap x ox C od) (hsub : subIn K (.ref C) (.type "object") = some true) {b : Value} (hq : Q () s) :
    wpAny M A (checkBuiltinCall "object.__ne__" ⟨[.ref x, b], []⟩) Q E s := by
  have ha := F.cmpArgs_ne (.ref x) b
  simp only [checkBuiltinCall, F.cmpKind_ne, F.cmpSplit_ne]
  refine wpAny_bind ?_
  simp only [isInstance]
  refine wpAny_bind (I.type.here ((looks_subIn X hsub).here ?_))
  simp only [Bool.not_true, Bool.false_eq_true, if_false]
  cases hsig : Manifest.signature? "object.__ne__" with
  | none => exact wpAny_pure hq
  | some sig =>
    simp only [argsOk, hsig] at ha
    have h2 : Bind.checkArgs "object.__ne__" sig ⟨[.ref x, b], []⟩ = pure () := ha
    show wpAny M A (Bind.checkArgs "object.__ne__" sig ⟨[.ref x, b], []⟩) Q E _
    rw [h2]
    exact wpAny_pure hq
theorem objNe_own {Q : Fin → Shared → Prop} (X : K.In s.heap) (I : InstAt s.heap x ox C od) (he : findIn K (.ref C) "__eq__" = some (some (.ref f))) (hf : isFn K (.ref f) = true) (hu : A.units < cLine)
    (h : wpAny (model prog w) A (call (.ref f) [.ref x, .ref y]) (fun v s' => ∃ b, v = .bool b ∧ Q (.done (.ret (.bool (!b)))) s') E s) : wpAny (model prog w) A (Builtin.«object.__ne__» ⟨[.ref x, .ref y], []⟩) Q E s := by
  unfold Builtin.«object.__ne__»
  repeat (first
    | with_reducible refine wpAny_cRoomFor hu ?_
    | (refine wpAny_bind (m := callSpecialIfBound? (.ref x) (Str.ofString "__eq__") [.ref y]) (ifBound_K X I he hf (wpAny_mono h (fun r s' hr => by
          obtain ⟨b, rfl, hq⟩ := hr
          repeat (first | exact hq | exact wpAny_pure hq | exact wpAny_truthy_bool hq | (refine wpAny_bind (m := truthy (.bool _)) (wpAny_truthy_bool ?_)) | wp_step)) fun _ _ e => e)))
    | wp_step)
theorem ifBound_ne {Q : Option Value → Shared → Prop} (X : K.In s.heap) (I : InstAt s.heap x ox C od) (hs : findIn K (.ref C) "__ne__" = some (some (.builtin "object.__ne__")))
    (h : wpAny (model prog w) A (call (.builtin "object.__ne__") [.ref x, .ref y]) (fun v => Q (some v)) E s) : wpAny (model prog w) A (callSpecialIfBound? (.ref x) "__ne__" [.ref y]) Q E s := by
  simp only [callSpecialIfBound?, bindSpecialIfBound?]
  refine wpAny_holding (wpAny_bind (wpAny_bind (wpAny_bind (I.type.here ((looks_findIn X hs).here ?_)))))
  simp only [F.cmp_object.ne.bind]
  refine wpAny_bind (wpAny_askSetting (wpAny_ite ?_))
  have fin : wpAny (model prog w) A (call (.builtin "object.__ne__") ([.ref x] ++ [.ref y]) >>= fun v => pure (some v)) Q E s := wpAny_bind (wpAny_mono h (fun v s' h' => wpAny_pure h') fun _ _ h' => h')
  split
  · exact wpAny_bind (wpAny_pure (wpAny_pure (by exact fin)))
  · exact wpAny_tryCatch (wpAny_bind (wpAny_pure (wpAny_pure (by exact fin))))
theorem cmp_ne {Q : Value → Shared → Prop} (hu : A.units + 1 < cLine) (F : Fr h₀ L s.heap m) (X₀ : K.In h₀) (I : InstAt s.heap x ox C od) (hb : Looks (model prog w) s.heap (typeOf (.ref y)) (.ref C))
    (hs : findIn K (.ref C) "__ne__" = some (some (.builtin "object.__ne__"))) (he : findIn K (.ref C) "__eq__" = some (some (.ref f))) (hf : isFn K (.ref f) = true) (hsub : subIn K (.ref C) (.type "object") = some true)
    (h : wpAny (model prog w) A.in1 (call (.ref f) [.ref x, .ref y]) (fun v s' => ∃ b, v = .bool b ∧ Q (.bool (!b)) s') E s) : wpAny (model prog w) A (compareOp .NotEq (.ref x) (.ref y)) Q E s := by
  have X := X₀.keeps F.keep
  have one : wpAny (model prog w) A (tryCompare (.ref x) "__ne__" (.ref y)) (fun r s' => ∃ v, r = some v ∧ Q v s') E s := by
    unfold tryCompare
    refine wpAny_bind (ifBound_ne X I hs (wpAny_call (codeAny_call_builtin PySem.F.cmp_object.ne.plain PySem.F.cmpEntry_ne (check_ne X I hsub (objNe_own (A := A.in1) X I he hf hu (wpAny_mono h (fun v s' hv => ?_) fun _ _ e => e))))))
    obtain ⟨b, rfl, hq⟩ := hv
    first | exact ⟨b, rfl, wpAny_pure ⟨_, rfl, hq⟩⟩ | exact wpAny_pure ⟨_, rfl, hq⟩ | exact ⟨_, rfl, hq⟩
  unfold compareOp
  unfold richCompare
  simp only [oneThing_ref]
  refine wpAny_holding (wpAny_bind (wpAny_cRoomFor (Nat.lt_of_succ_lt hu) ?_))
  rw [cmpInfo_NotEq]
  dsimp only
  refine wpAny_bind (I.type.here (wpAny_bind (hb.here ?_)))
  rw [show (Value.ref C != Value.ref C) = false from by simp]
  simp only [Bool.false_eq_true, if_false]
  refine wpAny_bind (wpAny_pure ?_)
  simp only [Bool.false_eq_true, if_false]
  refine wpAny_bind (wpAny_mono one (fun r s' z => ?_) fun _ _ e => e)
  obtain ⟨v, rfl, hq⟩ := z
  exact wpAny_pure hq
end
def neB (K : PySem.W.Frag) (x : Str) : Bool := He.eqO (PySem.W.findIn K (.ref (He.ga K x)) "__ne__") (some (some (.builtin "object.__ne__"))) && decide (PySem.W.subIn K (.ref (He.ga K x)) (.type "object") = some true)
theorem neB_ok {K : PySem.W.Frag} {x : Str} (h : neB K x = true) : PySem.W.findIn K (.ref (He.ga K x)) "__ne__" = some (some (.builtin "object.__ne__")) ∧ PySem.W.subIn K (.ref (He.ga K x)) (.type "object") = some true :=
  let ⟨a, b⟩ := He.ba h
  ⟨He.eqO_ok a, of_decide_eq_true b⟩
/-- x != y, the two of one own class with == -/
def rOwnNe (C : Addr) (sp : Sp) : R2 := fun x y H Q => ∃ a b dx dy fs gs, x = .ref a ∧ y = .ref b ∧ H a = some (.ins C dx fs) ∧ H b = some (.ins C dy gs) ∧ sp [x, y] H (fun v H' => ∃ c, v = .bl c ∧ Q (.bl (!c)) H') E0
theorem op_ownNe {X : Cx} {k j : Nat} {x : Str} {sp : Sp} (n : neB X.K x = true) (c : Own X.prog X.w X.K X.mg X.base k (He.ga X.K x) "__eq__" sp) (hr : Room j X.A) (hk : k + 1 ≤ j := by omega) : OpR X (compareOp .NotEq) (rOwnNe (He.ga X.K x) sp) := by
  rintro pins s σ H _ _ v u Q I rx ry ⟨a, b, dx, dy, fs, gs, rfl, rfl, ha, hb, hsp⟩
  obtain ⟨f, fd, ps, F, hs, hf, B⟩ := c
  cases rx
  cases ry
  obtain ⟨_, ia, _⟩ := ins_get I.hok ha
  obtain ⟨_, ib, _⟩ := ins_get I.hok hb
  obtain ⟨_, la, _⟩ := ia.look
  obtain ⟨_, lb, _⟩ := ib.look
  have un := (hr.mono hk).un
  obtain ⟨n1, n2⟩ := neB_ok n
  refine cmp_ne (by omega) I.fr.choose_spec I.ok.mod.kin la lb.type n1 hs hf n2 (thn (ask_in1 (vs := [.ref a, .ref b]) F B (hr.mono hk) pass0 I (.cons rfl (.cons rfl .nil)) hsp) fun r s1 z => ?_)
  obtain ⟨z, H1, I1, rz, c, rfl, q⟩ := z
  cases rz
  exact ⟨c, rfl, .bl (!c), H1, I1, rfl, q⟩
end RM

set_option Elab.async false
set_option linter.all false
set_option maxRecDepth 100000
set_option maxHeartbeats 0
namespace RM
open PySem PySem.Spec PyProof.Rows L2
def top (i : Nat) : Stmt := PySem.Challenge.pw_readmoments_k01_changes_as_values.main.body.getD i (.Pass ⟨0, 0, 0, 0⟩)
abbrev s_is_word : Stmt := top 8
abbrev s_is_value : Stmt := top 9
abbrev s_checked : Stmt := top 10
abbrev s_Change_init : Stmt := inClass (top 11) 0
abbrev s_Change_settings : Stmt := inClass (top 11) 1
abbrev s_Change_eq : Stmt := inClass (top 11) 2
abbrev s_Change_add : Stmt := inClass (top 11) 3
abbrev s_Change_contains : Stmt := inClass (top 11) 4
abbrev s_Change_len : Stmt := inClass (top 11) 5
abbrev s_Change_bool : Stmt := inClass (top 11) 6
abbrev s_law_begin : Stmt := top 13
abbrev s_law_draw : Stmt := top 14
abbrev s_law_like : Stmt := top 15
abbrev s_law_key : Stmt := top 16
abbrev s_law_number : Stmt := top 17
abbrev s_law_dict : Stmt := top 18
abbrev s_law_good : Stmt := top 19
abbrev s_law_change : Stmt := top 20
abbrev s_law_sum : Stmt := top 21
abbrev s_law_stands : Stmt := top 22
abbrev s_law : Stmt := top 23
def d_is_word : He.DefD := ⟨("is_word", none), "is_word", "is_word", defArgs s_is_word, defBody s_is_word, defScope s_is_word, [], []⟩
def d_is_value : He.DefD := ⟨("is_value", none), "is_value", "is_value", defArgs s_is_value, defBody s_is_value, defScope s_is_value, [], []⟩
def d_checked : He.DefD := ⟨("checked", none), "checked", "checked", defArgs s_checked, defBody s_checked, defScope s_checked, [], []⟩
def d_Change_init : He.DefD := ⟨("Change", some "__init__"), "__init__", "Change.__init__", defArgs s_Change_init, defBody s_Change_init, defScope s_Change_init, [], []⟩
def d_Change_settings : He.DefD := ⟨("Change", some "settings"), "settings", "Change.settings", defArgs s_Change_settings, defBody s_Change_settings, defScope s_Change_settings, [], []⟩
def d_Change_eq : He.DefD := ⟨("Change", some "__eq__"), "__eq__", "Change.__eq__", defArgs s_Change_eq, defBody s_Change_eq, defScope s_Change_eq, [], []⟩
def d_Change_add : He.DefD := ⟨("Change", some "__add__"), "__add__", "Change.__add__", defArgs s_Change_add, defBody s_Change_add, defScope s_Change_add, [], []⟩
def d_Change_contains : He.DefD := ⟨("Change", some "__contains__"), "__contains__", "Change.__contains__", defArgs s_Change_contains, defBody s_Change_contains, defScope s_Change_contains, [], []⟩
def d_Change_len : He.DefD := ⟨("Change", some "__len__"), "__len__", "Change.__len__", defArgs s_Change_len, defBody s_Change_len, defScope s_Change_len, [], []⟩
def d_Change_bool : He.DefD := ⟨("Change", some "__bool__"), "__bool__", "Change.__bool__", defArgs s_Change_bool, defBody s_Change_bool, defScope s_Change_bool, [], []⟩
def d_law_begin : He.DefD := ⟨("_law_begin", none), "_law_begin", "_law_begin", defArgs s_law_begin, defBody s_law_begin, defScope s_law_begin, [], []⟩
def d_law_draw : He.DefD := ⟨("_law_draw", none), "_law_draw", "_law_draw", defArgs s_law_draw, defBody s_law_draw, defScope s_law_draw, [], []⟩
def d_law_like : He.DefD := ⟨("_law_like", none), "_law_like", "_law_like", defArgs s_law_like, defBody s_law_like, defScope s_law_like, [], []⟩
def d_law_key : He.DefD := ⟨("_law_key", none), "_law_key", "_law_key", defArgs s_law_key, defBody s_law_key, defScope s_law_key, [], []⟩
def d_law_number : He.DefD := ⟨("_law_number", none), "_law_number", "_law_number", defArgs s_law_number, defBody s_law_number, defScope s_law_number, [], []⟩
def d_law_dict : He.DefD := ⟨("_law_dict", none), "_law_dict", "_law_dict", defArgs s_law_dict, defBody s_law_dict, defScope s_law_dict, [], []⟩
def d_law_good : He.DefD := ⟨("_law_good", none), "_law_good", "_law_good", defArgs s_law_good, defBody s_law_good, defScope s_law_good, [], []⟩
def d_law_change : He.DefD := ⟨("_law_change", none), "_law_change", "_law_change", defArgs s_law_change, defBody s_law_change, defScope s_law_change, [], []⟩
def d_law_sum : He.DefD := ⟨("_law_sum", none), "_law_sum", "_law_sum", defArgs s_law_sum, defBody s_law_sum, defScope s_law_sum, [], []⟩
def d_law_stands : He.DefD := ⟨("_law_stands", none), "_law_stands", "_law_stands", defArgs s_law_stands, defBody s_law_stands, defScope s_law_stands, [], []⟩
def d_law : He.DefD := ⟨("law", none), "law", "law", defArgs s_law, defBody s_law, defScope s_law, [], []⟩
def fnL : List He.DefD := [d_is_word, d_is_value, d_checked, d_Change_init, d_Change_settings, d_Change_eq, d_Change_add, d_Change_contains, d_Change_len, d_Change_bool, d_law_begin, d_law_draw, d_law_like, d_law_key, d_law_number, d_law_dict, d_law_good, d_law_change, d_law_sum, d_law_stands, d_law]
def fa0 : List He.Fa := [.glo "is_word", .glo "is_value", .glo "checked", .glo "_law_begin", .glo "_law_draw", .glo "_law_like", .glo "_law_key", .glo "_law_number", .glo "_law_dict", .glo "_law_good", .glo "_law_change", .glo "_law_sum", .glo "_law_stands", .glo "law", .glo "MomentError", .glo "BadValues", .glo "Change", .free "NotImplemented", .free "abs", .free "all", .free "bool", .free "dict", .free "int", .free "isinstance", .free "len", .free "list", .free "range", .free "sorted", .free "str", .free "tuple"]
def fa1 : List He.Fa := [.str "LETTERS" "abcdefghijklmnopqrstuvwxyz", .int "LONGEST" 6, .int "GREATEST" 99, .int "MOST" 4, .cls "Change", .mkr "Change", .meth "Change" "__init__", .meth "Change" "settings", .meth "Change" "__eq__", .meth "Change" "__add__", .meth "Change" "__contains__", .meth "Change" "__len__", .meth "Change" "__bool__", .noat "Change" "given", .exc "MomentError", .exc "BadValues", .exm "MomentError" "BadValues" false, .exm "BadValues" "BadValues" true]
def faL : List He.Fa := fa0 ++ fa1
def tsL : List He.Tab := []
def exL : List (PySem.W.Frag → Bool) := [fun K => insB K "Change", fun K => kitC K "Change" "Change" true, fun K => spcB K "Change" "__eq__", fun K => spcB K "Change" "__add__", fun K => spcB K "Change" "__contains__", fun K => spcB K "Change" "__len__", fun K => spcB K "Change" "__bool__", fun K => neB K "Change", fun K => PySem.W.selfFirst K (He.ga K "Change")]
def exB (K : PySem.W.Frag) : Bool := exL.all fun f => f K
def nm0 : List PySem.Str := ["MomentError", "BadValues", "LETTERS", "LONGEST", "GREATEST", "MOST", "is_word", "is_value", "checked", "Change", "_law_begin", "_law_draw", "_law_like", "_law_key", "_law_number", "_law_dict", "_law_good", "_law_change", "_law_sum", "_law_stands"]
def names : List PySem.Str := nm0
abbrev R : PySem.W.OpenRow := PySem.W.OpenLaw.row PySem.Challenge.rw_readmoments_k01_changes_as_values
abbrev hk : PySem.W.Hook := He.hookX 5 faL fnL tsL [] exB
def ob (s : PySem.W.SharedT) : He.AlX := He.obsX 5 faL fnL tsL [] exB (HandSHeadRun.getT s)
theorem ob_eq (s : PySem.W.SharedT) : ob s = hk.obs s.abs := He.obsX_eq (HandSHeadRun.getT_eq s)
theorem run0 (w : World) : HandSHeadRun.RunEq R (PySem.W.view R.prog [23]) hk ob 9000 names (w.withFollow "special-get-raises" false) := by
  intro os
  kernel_rfl
theorem run1 (w : World) : HandSHeadRun.RunEq R (PySem.W.view R.prog [23]) hk ob 9000 names (w.withFollow "special-get-raises" true) := by
  intro os
  kernel_rfl
theorem run (w : World) : HandSHeadRun.RunEq R (PySem.W.view R.prog [23]) hk ob 9000 names w := PySem.W.byRow2 "special-get-raises" (P := fun w => HandSHeadRun.RunEq R (PySem.W.view R.prog [23]) hk ob 9000 names w) run0 run1 w
end RM

set_option Elab.async false
set_option linter.all false
set_option maxRecDepth 100000
set_option maxHeartbeats 2000000
namespace RM
open PySem PySem.Spec PyProof.Rows L2
/-- what the top has left -/
structure Top (w : World) (K : PySem.W.Frag) (mg : Str → Option Value) : Prop where
  h : ∃ hp : Heap, K.In hp ∧ hp.Ns mainGlobals mg ∧ He.SaysX faL fnL tsL [] exB w hp K
section
variable {w : World} {K : PySem.W.Frag} {mg : Str → Option Value}
theorem Top.fa (T : Top w K mg) (i : Nat) {f : He.Fa} (h : faL[i]? = some f) : f.ok K = true := let ⟨_, _, _, c⟩ := T.h; c.t.d.fact i h
theorem Top.fd (T : Top w K mg) (i : Nat) {d : He.DefD} (h : fnL[i]? = some d) : ∃ fd, FunD K d.name d.qual d.params d.body d.scope (d.dvs K) (d.kws K) (He.fAd K d.at_) fd := let ⟨_, _, _, c⟩ := T.h; c.t.d.def_ i h
theorem g_is_word (T : Top w K mg) : mg "is_word" = some (.ref (He.ga K "is_word")) := let ⟨_, X, G, _⟩ := T.h; He.glo_ok X G (T.fa 0 rfl)
theorem g_is_value (T : Top w K mg) : mg "is_value" = some (.ref (He.ga K "is_value")) := let ⟨_, X, G, _⟩ := T.h; He.glo_ok X G (T.fa 1 rfl)
theorem g_checked (T : Top w K mg) : mg "checked" = some (.ref (He.ga K "checked")) := let ⟨_, X, G, _⟩ := T.h; He.glo_ok X G (T.fa 2 rfl)
theorem g_law_begin (T : Top w K mg) : mg "_law_begin" = some (.ref (He.ga K "_law_begin")) := let ⟨_, X, G, _⟩ := T.h; He.glo_ok X G (T.fa 3 rfl)
theorem g_law_draw (T : Top w K mg) : mg "_law_draw" = some (.ref (He.ga K "_law_draw")) := let ⟨_, X, G, _⟩ := T.h; He.glo_ok X G (T.fa 4 rfl)
theorem g_law_like (T : Top w K mg) : mg "_law_like" = some (.ref (He.ga K "_law_like")) := let ⟨_, X, G, _⟩ := T.h; He.glo_ok X G (T.fa 5 rfl)
theorem g_law_key (T : Top w K mg) : mg "_law_key" = some (.ref (He.ga K "_law_key")) := let ⟨_, X, G, _⟩ := T.h; He.glo_ok X G (T.fa 6 rfl)
theorem g_law_number (T : Top w K mg) : mg "_law_number" = some (.ref (He.ga K "_law_number")) := let ⟨_, X, G, _⟩ := T.h; He.glo_ok X G (T.fa 7 rfl)
theorem g_law_dict (T : Top w K mg) : mg "_law_dict" = some (.ref (He.ga K "_law_dict")) := let ⟨_, X, G, _⟩ := T.h; He.glo_ok X G (T.fa 8 rfl)
theorem g_law_good (T : Top w K mg) : mg "_law_good" = some (.ref (He.ga K "_law_good")) := let ⟨_, X, G, _⟩ := T.h; He.glo_ok X G (T.fa 9 rfl)
theorem g_law_change (T : Top w K mg) : mg "_law_change" = some (.ref (He.ga K "_law_change")) := let ⟨_, X, G, _⟩ := T.h; He.glo_ok X G (T.fa 10 rfl)
theorem g_law_sum (T : Top w K mg) : mg "_law_sum" = some (.ref (He.ga K "_law_sum")) := let ⟨_, X, G, _⟩ := T.h; He.glo_ok X G (T.fa 11 rfl)
theorem g_law_stands (T : Top w K mg) : mg "_law_stands" = some (.ref (He.ga K "_law_stands")) := let ⟨_, X, G, _⟩ := T.h; He.glo_ok X G (T.fa 12 rfl)
theorem g_law (T : Top w K mg) : mg "law" = some (.ref (He.ga K "law")) := let ⟨_, X, G, _⟩ := T.h; He.glo_ok X G (T.fa 13 rfl)
theorem g_MomentError (T : Top w K mg) : mg "MomentError" = some (.ref (He.ga K "MomentError")) := let ⟨_, X, G, _⟩ := T.h; He.glo_ok X G (T.fa 14 rfl)
theorem g_BadValues (T : Top w K mg) : mg "BadValues" = some (.ref (He.ga K "BadValues")) := let ⟨_, X, G, _⟩ := T.h; He.glo_ok X G (T.fa 15 rfl)
theorem g_Change (T : Top w K mg) : mg "Change" = some (.ref (He.ga K "Change")) := let ⟨_, X, G, _⟩ := T.h; He.glo_ok X G (T.fa 16 rfl)
theorem z_NotImplemented (T : Top w K mg) : mg "NotImplemented" = none := let ⟨_, X, G, _⟩ := T.h; He.free_ok X G (T.fa 17 rfl)
theorem z_abs (T : Top w K mg) : mg "abs" = none := let ⟨_, X, G, _⟩ := T.h; He.free_ok X G (T.fa 18 rfl)
theorem z_all (T : Top w K mg) : mg "all" = none := let ⟨_, X, G, _⟩ := T.h; He.free_ok X G (T.fa 19 rfl)
theorem z_bool (T : Top w K mg) : mg "bool" = none := let ⟨_, X, G, _⟩ := T.h; He.free_ok X G (T.fa 20 rfl)
theorem z_dict (T : Top w K mg) : mg "dict" = none := let ⟨_, X, G, _⟩ := T.h; He.free_ok X G (T.fa 21 rfl)
theorem z_int (T : Top w K mg) : mg "int" = none := let ⟨_, X, G, _⟩ := T.h; He.free_ok X G (T.fa 22 rfl)
theorem z_isinstance (T : Top w K mg) : mg "isinstance" = none := let ⟨_, X, G, _⟩ := T.h; He.free_ok X G (T.fa 23 rfl)
theorem z_len (T : Top w K mg) : mg "len" = none := let ⟨_, X, G, _⟩ := T.h; He.free_ok X G (T.fa 24 rfl)
theorem z_list (T : Top w K mg) : mg "list" = none := let ⟨_, X, G, _⟩ := T.h; He.free_ok X G (T.fa 25 rfl)
theorem z_range (T : Top w K mg) : mg "range" = none := let ⟨_, X, G, _⟩ := T.h; He.free_ok X G (T.fa 26 rfl)
theorem z_sorted (T : Top w K mg) : mg "sorted" = none := let ⟨_, X, G, _⟩ := T.h; He.free_ok X G (T.fa 27 rfl)
theorem z_str (T : Top w K mg) : mg "str" = none := let ⟨_, X, G, _⟩ := T.h; He.free_ok X G (T.fa 28 rfl)
theorem z_tuple (T : Top w K mg) : mg "tuple" = none := let ⟨_, X, G, _⟩ := T.h; He.free_ok X G (T.fa 29 rfl)
theorem i_LETTERS (T : Top w K mg) : ∃ t, mg "LETTERS" = some (.str "abcdefghijklmnopqrstuvwxyz" t) := let ⟨_, X, G, _⟩ := T.h; He.str_ok X G (T.fa 30 rfl)
theorem i_LONGEST (T : Top w K mg) : ∃ t, mg "LONGEST" = some (.int 6 t) := let ⟨_, X, G, _⟩ := T.h; He.int_ok X G (T.fa 31 rfl)
theorem i_GREATEST (T : Top w K mg) : ∃ t, mg "GREATEST" = some (.int 99 t) := let ⟨_, X, G, _⟩ := T.h; He.int_ok X G (T.fa 32 rfl)
theorem i_MOST (T : Top w K mg) : ∃ t, mg "MOST" = some (.int 4 t) := let ⟨_, X, G, _⟩ := T.h; He.int_ok X G (T.fa 33 rfl)
theorem k_Change (T : Top w K mg) : Cls K (He.ga K "Change") := He.cls_ok (T.fa 34 rfl)
theorem mk_Change (T : Top w K mg) : Mk K (He.ga K "Change") (He.ma K (He.ga K "Change") "__init__") := He.mkr_ok (T.fa 35 rfl)
theorem me_Change_init (T : Top w K mg) : Meth K (He.ga K "Change") "__init__" (He.ma K (He.ga K "Change") "__init__") := He.meth_ok (T.fa 36 rfl)
theorem me_Change_settings (T : Top w K mg) : Meth K (He.ga K "Change") "settings" (He.ma K (He.ga K "Change") "settings") := He.meth_ok (T.fa 37 rfl)
theorem me_Change_eq (T : Top w K mg) : Meth K (He.ga K "Change") "__eq__" (He.ma K (He.ga K "Change") "__eq__") := He.meth_ok (T.fa 38 rfl)
theorem me_Change_add (T : Top w K mg) : Meth K (He.ga K "Change") "__add__" (He.ma K (He.ga K "Change") "__add__") := He.meth_ok (T.fa 39 rfl)
theorem me_Change_contains (T : Top w K mg) : Meth K (He.ga K "Change") "__contains__" (He.ma K (He.ga K "Change") "__contains__") := He.meth_ok (T.fa 40 rfl)
theorem me_Change_len (T : Top w K mg) : Meth K (He.ga K "Change") "__len__" (He.ma K (He.ga K "Change") "__len__") := He.meth_ok (T.fa 41 rfl)
theorem me_Change_bool (T : Top w K mg) : Meth K (He.ga K "Change") "__bool__" (He.ma K (He.ga K "Change") "__bool__") := He.meth_ok (T.fa 42 rfl)
theorem na_Change_given (T : Top w K mg) : NoAttr K (He.ga K "Change") "given" := He.noat_ok (T.fa 43 rfl)
theorem xc_MomentError (T : Top w K mg) : PySem.W.excIn K (He.ga K "MomentError") He.veBase "ValueError.__new__" = true ∧ PySem.W.keepIn K (.ref (He.ga K "MomentError")) = true ∧ PySem.W.subIn K (.ref (He.ga K "MomentError")) (.type "BaseException") = some true ∧ PySem.W.typeIn K (.ref (He.ga K "MomentError")) = some (.type "type") := He.exc_ok (T.fa 44 rfl)
theorem xc_BadValues (T : Top w K mg) : PySem.W.excIn K (He.ga K "BadValues") He.veBase "ValueError.__new__" = true ∧ PySem.W.keepIn K (.ref (He.ga K "BadValues")) = true ∧ PySem.W.subIn K (.ref (He.ga K "BadValues")) (.type "BaseException") = some true ∧ PySem.W.typeIn K (.ref (He.ga K "BadValues")) = some (.type "type") := He.exc_ok (T.fa 45 rfl)
theorem xm_MomentError_BadValues (T : Top w K mg) : PySem.W.exmOne K (.ref (He.ga K "MomentError")) (.ref (He.ga K "BadValues")) = some false := He.exm_ok (T.fa 46 rfl)
theorem xm_BadValues_BadValues (T : Top w K mg) : PySem.W.exmOne K (.ref (He.ga K "BadValues")) (.ref (He.ga K "BadValues")) = some true := He.exm_ok (T.fa 47 rfl)
theorem f_is_word (T : Top w K mg) : ∃ fd, FunD K "is_word" "is_word" (defArgs s_is_word) (defBody s_is_word) (defScope s_is_word) [] [] (He.ga K "is_word") fd := T.fd 0 (d := d_is_word) rfl
theorem f_is_value (T : Top w K mg) : ∃ fd, FunD K "is_value" "is_value" (defArgs s_is_value) (defBody s_is_value) (defScope s_is_value) [] [] (He.ga K "is_value") fd := T.fd 1 (d := d_is_value) rfl
theorem f_checked (T : Top w K mg) : ∃ fd, FunD K "checked" "checked" (defArgs s_checked) (defBody s_checked) (defScope s_checked) [] [] (He.ga K "checked") fd := T.fd 2 (d := d_checked) rfl
theorem f_Change_init (T : Top w K mg) : ∃ fd, FunD K "__init__" "Change.__init__" (defArgs s_Change_init) (defBody s_Change_init) (defScope s_Change_init) [] [] (He.ma K (He.ga K "Change") "__init__") fd := T.fd 3 (d := d_Change_init) rfl
theorem f_Change_settings (T : Top w K mg) : ∃ fd, FunD K "settings" "Change.settings" (defArgs s_Change_settings) (defBody s_Change_settings) (defScope s_Change_settings) [] [] (He.ma K (He.ga K "Change") "settings") fd := T.fd 4 (d := d_Change_settings) rfl
theorem f_Change_eq (T : Top w K mg) : ∃ fd, FunD K "__eq__" "Change.__eq__" (defArgs s_Change_eq) (defBody s_Change_eq) (defScope s_Change_eq) [] [] (He.ma K (He.ga K "Change") "__eq__") fd := T.fd 5 (d := d_Change_eq) rfl
theorem f_Change_add (T : Top w K mg) : ∃ fd, FunD K "__add__" "Change.__add__" (defArgs s_Change_add) (defBody s_Change_add) (defScope s_Change_add) [] [] (He.ma K (He.ga K "Change") "__add__") fd := T.fd 6 (d := d_Change_add) rfl
theorem f_Change_contains (T : Top w K mg) : ∃ fd, FunD K "__contains__" "Change.__contains__" (defArgs s_Change_contains) (defBody s_Change_contains) (defScope s_Change_contains) [] [] (He.ma K (He.ga K "Change") "__contains__") fd := T.fd 7 (d := d_Change_contains) rfl
theorem f_Change_len (T : Top w K mg) : ∃ fd, FunD K "__len__" "Change.__len__" (defArgs s_Change_len) (defBody s_Change_len) (defScope s_Change_len) [] [] (He.ma K (He.ga K "Change") "__len__") fd := T.fd 8 (d := d_Change_len) rfl
theorem f_Change_bool (T : Top w K mg) : ∃ fd, FunD K "__bool__" "Change.__bool__" (defArgs s_Change_bool) (defBody s_Change_bool) (defScope s_Change_bool) [] [] (He.ma K (He.ga K "Change") "__bool__") fd := T.fd 9 (d := d_Change_bool) rfl
theorem f_law_begin (T : Top w K mg) : ∃ fd, FunD K "_law_begin" "_law_begin" (defArgs s_law_begin) (defBody s_law_begin) (defScope s_law_begin) [] [] (He.ga K "_law_begin") fd := T.fd 10 (d := d_law_begin) rfl
theorem f_law_draw (T : Top w K mg) : ∃ fd, FunD K "_law_draw" "_law_draw" (defArgs s_law_draw) (defBody s_law_draw) (defScope s_law_draw) [] [] (He.ga K "_law_draw") fd := T.fd 11 (d := d_law_draw) rfl
theorem f_law_like (T : Top w K mg) : ∃ fd, FunD K "_law_like" "_law_like" (defArgs s_law_like) (defBody s_law_like) (defScope s_law_like) [] [] (He.ga K "_law_like") fd := T.fd 12 (d := d_law_like) rfl
theorem f_law_key (T : Top w K mg) : ∃ fd, FunD K "_law_key" "_law_key" (defArgs s_law_key) (defBody s_law_key) (defScope s_law_key) [] [] (He.ga K "_law_key") fd := T.fd 13 (d := d_law_key) rfl
theorem f_law_number (T : Top w K mg) : ∃ fd, FunD K "_law_number" "_law_number" (defArgs s_law_number) (defBody s_law_number) (defScope s_law_number) [] [] (He.ga K "_law_number") fd := T.fd 14 (d := d_law_number) rfl
theorem f_law_dict (T : Top w K mg) : ∃ fd, FunD K "_law_dict" "_law_dict" (defArgs s_law_dict) (defBody s_law_dict) (defScope s_law_dict) [] [] (He.ga K "_law_dict") fd := T.fd 15 (d := d_law_dict) rfl
theorem f_law_good (T : Top w K mg) : ∃ fd, FunD K "_law_good" "_law_good" (defArgs s_law_good) (defBody s_law_good) (defScope s_law_good) [] [] (He.ga K "_law_good") fd := T.fd 16 (d := d_law_good) rfl
theorem f_law_change (T : Top w K mg) : ∃ fd, FunD K "_law_change" "_law_change" (defArgs s_law_change) (defBody s_law_change) (defScope s_law_change) [] [] (He.ga K "_law_change") fd := T.fd 17 (d := d_law_change) rfl
theorem f_law_sum (T : Top w K mg) : ∃ fd, FunD K "_law_sum" "_law_sum" (defArgs s_law_sum) (defBody s_law_sum) (defScope s_law_sum) [] [] (He.ga K "_law_sum") fd := T.fd 18 (d := d_law_sum) rfl
theorem f_law_stands (T : Top w K mg) : ∃ fd, FunD K "_law_stands" "_law_stands" (defArgs s_law_stands) (defBody s_law_stands) (defScope s_law_stands) [] [] (He.ga K "_law_stands") fd := T.fd 19 (d := d_law_stands) rfl
theorem f_law (T : Top w K mg) : ∃ fd, FunD K "law" "law" (defArgs s_law) (defBody s_law) (defScope s_law) [] [] (He.ga K "law") fd := T.fd 20 (d := d_law) rfl
theorem Top.ex (T : Top w K mg) (i : Nat) {f : PySem.W.Frag → Bool} (h : exL[i]? = some f) : f K = true := let ⟨_, _, _, c⟩ := T.h; List.all_eq_true.mp c.more f (List.mem_of_getElem? h)
theorem ins_Change (T : Top w K mg) : insB K "Change" = true := T.ex 0 rfl
theorem kit_Change_Change (T : Top w K mg) : kitC K "Change" "Change" true = true := T.ex 1 rfl
theorem spc_Change_eq (T : Top w K mg) : spcB K "Change" "__eq__" = true := T.ex 2 rfl
theorem spc_Change_add (T : Top w K mg) : spcB K "Change" "__add__" = true := T.ex 3 rfl
theorem spc_Change_contains (T : Top w K mg) : spcB K "Change" "__contains__" = true := T.ex 4 rfl
theorem spc_Change_len (T : Top w K mg) : spcB K "Change" "__len__" = true := T.ex 5 rfl
theorem spc_Change_bool (T : Top w K mg) : spcB K "Change" "__bool__" = true := T.ex 6 rfl
theorem ne_Change (T : Top w K mg) : neB K "Change" = true := T.ex 7 rfl
theorem sf_Change (T : Top w K mg) : PySem.W.selfFirst K (He.ga K "Change") = true := T.ex 8 rfl
end
end RM

set_option Elab.async false
set_option linter.all false
set_option maxRecDepth 100000
set_option maxHeartbeats 2000000
namespace RM
open PySem PySem.Spec PyProof.Rows L2
section
variable {P : Program} {w : World} {K : PySem.W.Frag} {mg : Str → Option Value} {base : Heap}
theorem sc_is_value : FnScope ["value"] ["value"] (defScope s_is_value) := ⟨rfl, rfl, rfl, by decide +kernel, rfl, by decide +kernel, by decide +kernel⟩
def spIsValue : Sp := fun vs H Q _ => match vs with
  | [x] => ∃ n, x = .int n ∧ Q (.bl (isValue n)) H
  | _ => False
/-- data that is no number -/
def noInt : PyData → Bool
  | .int _ => false
  | .dict _ => false
  | _ => true
def spIsValueG (K : PySem.W.Frag) : Sp := fun vs H Q E => spIsValue vs H Q E ∨ match vs with
  | [x] => ∃ d, Dp K H x d ∧ noInt d = true ∧ Q (.bl false) H
  | _ => False
theorem cg_is_value (T : Top w K mg) : Cal P w K mg base CX0 1 "is_value" (spIsValueG K) := by
  refine cal_0 (f_is_value T) (g_is_value T) sc_is_value (fun _ _ _ _ _ _ us hl => match us, hl with | [_], _ => rfl) (fun vs H Q E h => match vs, h with | [_], _ => rfl | [], .inl h => h.elim | [], .inr h => h.elim | _ :: _ :: _, .inl h => h.elim | _ :: _ :: _, .inr h => h.elim) (fun cdv A outer s H vs Q E hr h => ?_)
  match vs, h with
  | [x], h =>
  refine ⟨_, (pss_one (ps_ret (pe_and (pcb (z_isinstance T) call_isi boot_isinstance (pa_cons (pv 0) (pa_cons (pty (z_int T) boot_int) pa_nil))) (pe_and (pe_not (pcb (z_isinstance T) call_isi boot_isinstance (pa_cons (pv 0) (pa_cons (pty (z_bool T) boot_bool) pa_nil)))) (pe_one (pe_chain op_le op_le (pe_un un_neg (pglI (i_GREATEST T))) (pv 0) (pglI (i_GREATEST T)))))))), ?_⟩
  rcases h with h | ⟨d, hd, hn, q⟩
  case inr =>
    cases hd with
    | int i => cases hn
    | non => exact ⟨_, rfl, _, _, _, _, false, rfl, .ty _, .base .non, kit_ty (by decide +kernel), _, rfl, iteF q⟩
    | str z => exact ⟨_, rfl, _, _, _, _, false, rfl, .ty _, .base (.str z), kit_ty (by decide +kernel), _, rfl, iteF q⟩
    | lst h1 _ => exact ⟨_, rfl, _, _, _, _, false, rfl, .ty _, tyL h1, kit_ty (by decide +kernel), _, rfl, iteF q⟩
    | tup h1 _ => exact ⟨_, rfl, _, _, _, _, false, rfl, .ty _, tyT h1, kit_ty (by decide +kernel), _, rfl, iteF q⟩
    | bl b =>
      refine ⟨_, rfl, _, _, _, _, true, rfl, .ty _, .base (.bl b), kit_ty (by decide +kernel), _, rfl, iteT ?_⟩
      exact ⟨_, rfl, _, _, _, _, true, rfl, .ty _, .base (.bl b), kit_ty (by decide +kernel), _, rfl, _, rfl, iteF q⟩
  obtain ⟨n, rfl, q⟩ := h
  refine ⟨_, rfl, _, _, _, _, true, rfl, .ty _, .base (.int _), kit_ty (by decide +kernel), _, rfl, iteT ?_⟩
  refine ⟨_, rfl, _, _, _, _, false, rfl, .ty _, .base (.int _), kit_ty (by decide +kernel), _, rfl, _, rfl, iteT ?_⟩
  refine ⟨_, rfl, _, rfl, _, _, rfl, rfl, _, rfl, ?_⟩
  unfold isValue at q
  by_cases c : -99 ≤ n
  · rw [decide_eq_true c] at q
    rw [decide_eq_true c]
    exact ⟨_, _, rfl, rfl, q⟩
  · rw [decide_eq_false c] at q
    rw [decide_eq_false c]
    exact q
theorem c_is_value (T : Top w K mg) : Cal P w K mg base CX0 1 "is_value" spIsValue := (cg_is_value T).imp fun _ _ _ _ => Or.inl
/-! ### is_word -/
def spIsWord : Sp := fun vs H Q _ => match vs with
  | [x] => ∃ z : Str, x = .str z ∧ z.length ≤ sizeLine ∧ Q (.bl (isWord z)) H
  | _ => False
theorem sc_is_word : FnScope ["value", "letter"] ["value"] (defScope s_is_word) := ⟨rfl, rfl, rfl, by decide +kernel, rfl, by decide +kernel, by decide +kernel⟩
/-- data that is no text -/
def noStr : PyData → Bool
  | .str _ => false
  | .dict _ => false
  | _ => true
def spIsWordG (K : PySem.W.Frag) : Sp := fun vs H Q E => spIsWord vs H Q E ∨ match vs with
  | [x] => ∃ d, Dp K H x d ∧ noStr d = true ∧ Q (.bl false) H
  | _ => False
theorem cg_is_word (T : Top w K mg) : Cal P w K mg base CX0 1 "is_word" (spIsWordG K) := by
  refine cal_0 (f_is_word T) (g_is_word T) sc_is_word (fun _ _ _ _ _ _ us hl => match us, hl with | [_], _ => rfl) (fun vs H Q E h => match vs, h with | [_], _ => rfl | [], .inl h => h.elim | [], .inr h => h.elim | _ :: _ :: _, .inl h => h.elim | _ :: _ :: _, .inr h => h.elim) (fun cdv A outer s H vs Q E hr h => ?_)
  match vs, h with
  | [x], h =>
  refine ⟨_, (pss_cons (ps_if (PW.pt (pw_or (pt_not (pt_val (pcb (z_isinstance T) call_isi boot_isinstance (pa_cons (pv 0) (pa_cons (pty (z_str T) boot_str) pa_nil))))) (pw_or1 (pt_not (pt_chain op_le op_le pe_int (pcb (z_len T) call_len_str boot_len (pa_cons (pv 0) pa_nil)) (pglI (i_LONGEST T)))))))
      (pss_one (ps_ret pe_bl))
      pss_nil)
    (pss_cons (ps_for PassesOwn.never rfl (pi_str (pv 0)) (pg_name (i := 1) sc_is_word.nd rfl (Or.inl rfl))
      (pss_one (ps_if (pt_cmpR op_notIn_sign (pv 1) (pglS (i_LETTERS T)) rfl)
      (pss_one (ps_ret pe_bl))
      pss_nil)))
    (pss_one (ps_ret pe_bl)))), ?_⟩
  rcases h with h | ⟨d, hd, hn, q⟩
  case inr =>
    cases hd with
    | str z => cases hn
    | non => exact ⟨_, rfl, _, _, _, _, false, rfl, .ty _, .base .non, kit_ty (by decide +kernel), _, rfl, iteT q⟩
    | int z => exact ⟨_, rfl, _, _, _, _, false, rfl, .ty _, .base (.int z), kit_ty (by decide +kernel), _, rfl, iteT q⟩
    | bl z => exact ⟨_, rfl, _, _, _, _, false, rfl, .ty _, .base (.bl z), kit_ty (by decide +kernel), _, rfl, iteT q⟩
    | lst h1 _ => exact ⟨_, rfl, _, _, _, _, false, rfl, .ty _, tyL h1, kit_ty (by decide +kernel), _, rfl, iteT q⟩
    | tup h1 _ => exact ⟨_, rfl, _, _, _, _, false, rfl, .ty _, tyT h1, kit_ty (by decide +kernel), _, rfl, iteT q⟩
  obtain ⟨z, rfl, hz, q⟩ := h
  refine ⟨_, rfl, _, _, _, _, true, rfl, .ty _, .base (.str _), kit_ty (by decide +kernel), _, rfl, ?_⟩
  refine iteF ?_
  refine ⟨_, rfl, _, rfl, hz, _, _, rfl, rfl, _, rfl, ?_⟩
  have no : ∀ b : Bool, isWord z = b → Q (.bl b) H := fun b e => by rw [← e]; exact q
  by_cases c1 : 1 ≤ (z.length : Int)
  case neg =>
    rw [decide_eq_false c1]
    exact iteF ⟨_, rfl, iteT (no false (by unfold isWord; rw [decide_eq_false (by omega)]; rfl))⟩
  rw [decide_eq_true c1]
  refine iteT ?_
  refine ⟨_, _, rfl, rfl, _, rfl, ?_⟩
  by_cases c2 : (z.length : Int) ≤ 6
  case neg =>
    rw [decide_eq_false c2]
    exact iteT (no false (by unfold isWord; rw [decide_eq_false (by omega : ¬ z.length ≤ 6), Bool.and_false]; rfl))
  rw [decide_eq_true c2]
  refine iteF ?_
  have e0 : isWord z = z.cps.toList.all isLet := by
    unfold isWord
    rw [decide_eq_true (by omega), decide_eq_true (by omega)]
    rfl
  refine ⟨_, rfl, _, rfl, for_it walk_str (fun i σ H' => H' = H ∧ (∃ v, σ = [some (.str z), v]) ∧ (z.cps.toList.take i).all isLet = true) ⟨rfl, ⟨_, rfl⟩, rfl⟩ (fun _ _ _ _ _ => trivial) ?_ ?_⟩
  · rintro i x σ H1 H2 hi ⟨rfl, ⟨v, rfl⟩, ha⟩ ⟨rfl, c, hc, rfl⟩
    refine ⟨_, rfl, c, _, rfl, rfl, _, rfl, ?_⟩
    have hc' : z.cps.toList[i]? = some c := by simpa using hc
    by_cases m : c ∈ ("abcdefghijklmnopqrstuvwxyz" : Str).cps.toList
    · rw [decide_eq_true m]
      refine iteF ⟨rfl, ⟨_, rfl⟩, ?_⟩
      rw [List.take_add_one, hc', List.all_append, ha]
      show ([c].all isLet) = true
      simp only [List.all_cons, List.all_nil, Bool.and_true]
      exact decide_eq_true m
    · rw [decide_eq_false m]
      refine iteT (no false (e0.trans ?_))
      rw [List.all_eq_false]
      exact ⟨c, List.mem_of_getElem? hc', by unfold isLet; rw [decide_eq_false m]; exact Bool.false_ne_true⟩
  · rintro σ H1 ⟨rfl, ⟨v, rfl⟩, ha⟩
    refine no true (e0.trans ?_)
    rw [← ha, List.take_of_length_le (by simp)]
theorem c_is_word (T : Top w K mg) : Cal P w K mg base CX0 1 "is_word" spIsWord := (cg_is_word T).imp fun _ _ _ _ => Or.inl
end
end RM

set_option Elab.async false
set_option linter.all false
set_option maxRecDepth 100000
set_option maxHeartbeats 2000000
namespace RM
open PySem PySem.Spec PyProof.Rows L2
/-! ### dicts from words to values -/
abbrev WM := List (Str × Int)
def mK (m : WM) : List (Key × V) := m.map fun q => (Sum.inr q.1, V.int q.2)
/-- right words and values, no word twice -/
def okM (m : WM) : Prop := (∀ q ∈ m, isWord q.1 = true ∧ isValue q.2 = true) ∧ (m.map (·.1)).Nodup
theorem mK_get {m : WM} {i : Nat} {k : Key} {v : V} (h : (mK m)[i]? = some (k, v)) : ∃ q, m[i]? = some q ∧ k = .inr q.1 ∧ v = .int q.2 := by
  unfold mK at h
  rw [List.getElem?_map] at h
  obtain ⟨q, hq, e⟩ := Option.map_eq_some_iff.mp h
  injection e with e1 e2
  exact ⟨q, hq, e1.symm, e2.symm⟩
theorem valV_mK : ∀ {m : WM}, (m.map (·.1)).Nodup → ∀ q ∈ m, valV (mK m) (Sum.inr q.1) = some (.int q.2)
  | [], _, q, h => by simp at h
  | p :: r, hn, q, h => by
    rw [List.map_cons, List.nodup_cons] at hn
    rcases List.mem_cons.mp h with rfl | h
    · show (((Sum.inr q.1, V.int q.2) :: mK r).find? fun kv => decide (kv.1 = Sum.inr q.1)).map (·.2) = _
      rw [List.find?_cons_of_pos (by simp)]
      rfl
    · have ne : p.1 ≠ q.1 := fun e => hn.1 (by rw [e]; exact List.mem_map.mpr ⟨q, h, rfl⟩)
      show (((Sum.inr p.1, V.int p.2) :: mK r).find? fun kv => decide (kv.1 = Sum.inr q.1)).map (·.2) = _
      rw [List.find?_cons_of_neg (by simpa using ne)]
      exact valV_mK hn.2 q h
theorem upd_back {H : Hp} {a : Addr} {u o : HO} (h : H a = some u) : upd (upd H a o) a u = H := by
  funext b
  by_cases e : b = a
  · rw [e, upd_same, h]
  · rw [upd_ne e, upd_ne e]
/-- m2 holds what m holds, its words ascending -/
def SortM (m m2 : WM) : Prop := m2.Perm m ∧ sortedS (m2.map (·.1)) = true
/-- what a dict's comprehension adds -/
abbrev addsD (D : Addr) (tk tv : TE) : L2.St → Hp → (Hp → Prop) → Prop := fun σ H N => tk σ H fun y H4 => tv σ H4 fun z H5 => ∃ kvs k, y = kV k ∧ H5 D = some (.dK kvs) ∧ kvs.length < sizeLine ∧ N (upd H5 D (.dK (putK kvs k z)))
/-- a dict's comprehension over a walk: I by the turn -/
theorem dc_walk {J : It} {n : Nat} {G : Hp → Prop} {Y : Nat → Hp → V → Hp → Prop} (wk : Walk J n G Y) {g : TG} {tt : TT} {tk tv : TE} {vs : List Nat} {σ : L2.St} {H1 : Hp} {D : Addr} {Qd : Hp → Prop} (I : Nat → Hp → Prop) (start : I 0 (upd H1 D (.dK [])))
    (stay : ∀ i H, i ≤ n → I i H → G H) (turn : ∀ i x H H', i < n → I i H → Y i H x H' → g x (wipe σ vs) H' fun σ2 H2 => wipe σ2 vs = wipe σ vs ∧ tt σ2 H2 fun b H3 => if b = true then addsD D tk tv σ2 H3 (I (i + 1)) else I (i + 1) H3)
    (last : ∀ H, I n H → Qd H) : ∃ W : Nat → Nat → Hp → Prop, (∃ m, W 0 m (upd H1 D (.dK []))) ∧ Turns J g tt (addsD D tk tv) (wipe σ vs) vs W Qd := by
  refine ⟨fun i m H => m + i = n ∧ I i H, ⟨n, rfl, start⟩, ?_⟩
  rintro i m H ⟨e, hI⟩
  have hG := stay i H (by omega) hI
  cases m with
  | zero =>
    obtain rfl : i = n := by omega
    exact .inl ⟨wk.stops H hG, last H hI⟩
  | succ m => exact .inr ⟨wk.goes i H (by omega) hG, I (i + 1), fun H' h => ⟨m, by omega, by omega, h⟩, fun x H' y => turn i x H H' (by omega) hI (wk.yields i H x H' (by omega) hG y)⟩
/-- the map with the words ks in their order -/
def pick (m : WM) (ks : List Str) : WM := ks.map fun k => (k, ((m.find? fun q => decide (q.1 = k)).map (·.2)).getD 0)
theorem find_own : ∀ {m : WM}, (m.map (·.1)).Nodup → ∀ q ∈ m, ((m.find? fun p => decide (p.1 = q.1)).map (·.2)).getD 0 = q.2
  | [], _, q, h => by simp at h
  | p :: r, hn, q, h => by
    rw [List.map_cons, List.nodup_cons] at hn
    rcases List.mem_cons.mp h with rfl | h
    · rw [List.find?_cons_of_pos (by simp)]
      rfl
    · have ne : p.1 ≠ q.1 := fun e => hn.1 (by rw [e]; exact List.mem_map.mpr ⟨q, h, rfl⟩)
      rw [List.find?_cons_of_neg (by simpa using ne)]
      exact find_own hn.2 q h
theorem pick_keys (m : WM) (ks : List Str) : (pick m ks).map (·.1) = ks := by
  unfold pick
  rw [List.map_map]
  exact List.map_id ks
theorem pick_perm {m : WM} {ks : List Str} (hn : (m.map (·.1)).Nodup) (hp : ks.Perm (m.map (·.1))) : (pick m ks).Perm m := by
  have h := hp.map fun k => (k, ((m.find? fun q => decide (q.1 = k)).map (·.2)).getD 0)
  rw [List.map_map] at h
  have e : m.map ((fun k => (k, ((m.find? fun q => decide (q.1 = k)).map (·.2)).getD 0)) ∘ (·.1)) = m := by
    have key : ∀ l : WM, (∀ q ∈ l, q ∈ m) → l.map ((fun k => (k, ((m.find? fun q => decide (q.1 = k)).map (·.2)).getD 0)) ∘ (·.1)) = l := by
      intro l
      induction l with
      | nil => intro _; rfl
      | cons q r ih =>
        intro hl
        rw [List.map_cons, ih fun x hx => hl x (List.mem_cons_of_mem _ hx)]
        show (q.1, ((m.find? fun p => decide (p.1 = q.1)).map (·.2)).getD 0) :: r = q :: r
        rw [find_own hn q (hl q List.mem_cons_self)]
    exact key m fun _ h => h
  rw [e] at h
  exact h
/-- a new word goes to the end -/
theorem put_new {m : WM} {z : Str} {n : Int} (h : z ∉ m.map (·.1)) : putK (mK m) (Sum.inr z) (.int n) = mK (m ++ [(z, n)]) := by
  have e : ((mK m).any fun kv => decide (kv.1 = Sum.inr z)) = false := by
    rw [List.any_eq_false]
    intro kv hkv
    obtain ⟨q, hq, rfl⟩ := List.mem_map.mp hkv
    simp only [decide_eq_true_eq]
    intro e
    exact h (List.mem_map.mpr ⟨q, hq, Sum.inr.inj e⟩)
  unfold putK
  rw [if_neg (by rw [e]; exact Bool.false_ne_true)]
  unfold mK
  rw [List.map_append]
  rfl
section
variable {P : Program} {w : World} {K : PySem.W.Frag} {mg : Str → Option Value} {base : Heap}
def spChk : Sp := fun vs H Q _ => match vs with
  | [x, y] => ∃ (a : Addr) (m : WM) (least : Nat), x = .ref a ∧ y = .int least ∧ H a = some (.dK (mK m)) ∧ okM m ∧ least ≤ m.length ∧ m.length ≤ 4 ∧
    ∀ p H' m2, Same H H' → H p = none → H' p = some (.dK (mK m2)) → SortM m m2 → Q (.ref p) H'
  | _ => False
theorem sc_checked : FnScope ["values", "least", "key"] ["values", "least"] (defScope s_checked) := ⟨rfl, rfl, rfl, by decide +kernel, rfl, by decide +kernel, by decide +kernel⟩
theorem c_checked (T : Top w K mg) : Cal P w K mg base CX0 3 "checked" spChk := by
  refine cal_0 (f_checked T) (g_checked T) sc_checked (fun _ _ _ _ _ _ us hl => match us, hl with | [_, _], _ => rfl) (fun vs H Q E h => match vs, h with | [_, _], _ => rfl) (fun cdv A outer s H vs Q E hr h => ?_)
  match vs, h with
  | [x, y], h =>
  obtain ⟨a, m, least, rfl, rfl, ha, hg, h1, h2, q⟩ := h
  have lm : (mK m).length = m.length := List.length_map ..
  refine ⟨_, (pss_cons (ps_if (PW.pt (pw_or (pt_not (pt_val (pcb (z_isinstance T) call_isi boot_isinstance (pa_cons (pv 0) (pa_cons (pty (z_dict T) boot_dict) pa_nil))))) (pw_or1 (pt_not (pt_chain op_le op_le (pv 1) (pcb (z_len T) call_lenD boot_len (pa_cons (pv 0) pa_nil)) (pglI (i_MOST T)))))))
      (pss_one ps_never)
      pss_nil)
    (pss_cons (ps_lock (ps_for PassesOwn.never rfl (pi_keys (pv 0)) (pg_name (i := 2) sc_checked.nd rfl (Or.inl rfl))
      (pss_one (ps_if (PW.pt (pw_or (pt_not (pt_val (pc (c_is_word T) hr (pa_cons (pv 2) pa_nil)))) (pw_or1 (pt_not (pt_val (pc (c_is_value T) hr (pa_cons (pe_dget (hu_of hr) (pv 0) (pv 2) (fun _ _ => rfl)) pa_nil)))))))
      (pss_one ps_never)
      pss_nil))))
    (pss_one (ps_ret (pe_dc (own := [("key", 2)]) rfl sc_checked.nd (pi_list (pcb (z_sorted T) (call_sortedD rfl) boot_sorted (pa_cons (pv 0) pa_nil))) (blkOk_by (own := [("key", 2)]) (N := ["values", "least", "key"]) (sc := defScope s_checked) (by decide +kernel)) (fun _ _ _ _ _ => (pg_name (i := 2) sc_checked.nd rfl (Or.inl rfl) (Or.inr rfl))) (fun _ _ _ _ _ => pts_nil) (fun _ _ _ _ _ => (pv 2)) (fun _ _ _ _ _ => (pe_dget (hu_of hr) (pv 0) (pv 2) (fun _ _ => rfl)))))))), ?_⟩
  refine ⟨_, rfl, _, _, _, _, true, rfl, .ty _, .base (.dK ha), kit_ty (by decide +kernel), _, rfl, iteF ?_⟩
  refine ⟨_, rfl, _, rfl, a, mK m, rfl, ha, _, _, rfl, rfl, _, rfl, ?_⟩
  rw [decide_eq_true (by omega : ((least : Nat) : Int) ≤ ((mK m).length : Nat))]
  refine iteT ⟨_, _, rfl, rfl, _, rfl, ?_⟩
  refine ifF (by rw [Bool.not_eq_false', decide_eq_true_eq]; show (((mK m).length : Nat) : Int) ≤ 4; omega) ?_
  -- for key in values
  refine ⟨a, .dK (mK m), ha, trivial, fun od => ?_⟩
  refine ⟨_, rfl, a, od, rfl, .inl ⟨mK m, upd_same, for_it walk_keys (fun i σ H' => H' = upd H a (.frz od (.dK (mK m))) ∧ ∃ v, σ = [some (.ref a), some (.int least), v]) ⟨rfl, _, rfl⟩ (fun i σ H' _ h => by rw [h.1]; exact upd_same) ?_ ?_⟩⟩
  · rintro i x σ H1 H2 hi ⟨rfl, v, rfl⟩ ⟨rfl, k, v2, hk, rfl⟩
    obtain ⟨p, hp, rfl, rfl⟩ := mK_get hk
    have hm := List.mem_of_getElem? hp
    obtain ⟨g1, g2⟩ := hg.1 p hm
    refine ⟨_, rfl, p.1, rfl, word_size g1, ?_⟩
    rw [g1]
    refine ⟨_, rfl, iteF ?_⟩
    refine ⟨_, rfl, _, rfl, a, .int p.2, rfl, .inl ⟨mK m, .inr p.1, .inr ⟨od, upd_same⟩, rfl, (valV_mK hg.2 p hm).symm⟩, p.2, rfl, ?_⟩
    rw [g2]
    exact ⟨_, rfl, ifF rfl ⟨rfl, _, rfl⟩⟩
  · rintro σ H1 ⟨rfl, v, rfl⟩
    refine ⟨upd_same, ?_⟩
    rw [upd_back ha]
    refine ⟨_, rfl, a, mK m, m.map (·.1), rfl, .of ha, by unfold mK; rw [List.map_map, List.map_map]; rfl, by rw [List.length_map]; omega, fun ys p hperm hsort hp => ?_⟩
    refine ⟨p, rfl, ⟨_, SqL.of upd_same⟩, fun D nD => ?_⟩
    have s1 := smNew1 hp (.lst (ys.map V.str))
    have hD0 : H D = none := s1.free nD
    have ly : ys.length = m.length := by rw [hperm.length_eq, List.length_map]
    have nd : ys.Nodup := hperm.nodup_iff.mpr hg.2
    have Dp : D ≠ p := fun z => by rw [z, upd_same] at nD; cases nD
    refine dc_walk walk_list (fun i H' => Same H H' ∧ H' p = some (.lst (ys.map V.str)) ∧ H' D = some (.dK (mK (pick m (ys.take i))))) ⟨smNew s1 nD _, by rw [upd_ne (Ne.symm Dp)]; exact upd_same, upd_same⟩ (fun i H' _ h => SqL.of h.2.1) ?_ ?_
    · rintro i x H1 H2 hi ⟨e, hp1, hD⟩ ⟨rfl, hx⟩
      rw [List.getElem?_map] at hx
      obtain ⟨z, hz, rfl⟩ := Option.map_eq_some_iff.mp hx
      obtain ⟨q1, hq1, rfl⟩ := List.mem_map.mp (hperm.mem_iff.mp (List.mem_of_getElem? hz))
      have il := (List.getElem?_eq_some_iff.mp hz).1
      refine ⟨rfl, yesI ?_⟩
      refine ⟨_, rfl, _, rfl, _, rfl, a, .int q1.2, rfl, .inl ⟨mK m, .inr q1.1, .of (e _ _ ha), rfl, (valV_mK hg.2 q1 hq1).symm⟩, mK (pick m (ys.take i)), .inr q1.1, rfl, hD, small1000 ?_, ?_⟩
      · show ((pick m (ys.take i)).map _).length ≤ 1000
        rw [List.length_map]
        show ((ys.take i).map _).length ≤ 1000
        rw [List.length_map, List.length_take]
        omega
      · have hne : q1.1 ∉ (pick m (ys.take i)).map (·.1) := by
          rw [pick_keys]
          intro hin
          obtain ⟨j, hj, ej⟩ := List.mem_iff_getElem.mp hin
          rw [List.getElem_take] at ej
          have jl : j < i := by rw [List.length_take] at hj; omega
          have := (List.getElem_inj (h₀ := by omega) (h₁ := il) nd).mp (ej.trans (List.getElem?_eq_some_iff.mp hz).2.symm)
          omega
        rw [put_new hne]
        refine ⟨smOut e hD0 _, by rw [upd_ne (Ne.symm Dp)]; exact hp1, ?_⟩
        rw [upd_same, List.take_add_one, hz]
        unfold pick
        rw [List.map_append]
        show some (HO.dK (mK (_ ++ [(q1.1, q1.2)]))) = some (HO.dK (mK (_ ++ [(q1.1, ((m.find? fun q => decide (q.1 = q1.1)).map (·.2)).getD 0)])))
        rw [find_own hg.2 q1 hq1]
    · rintro H1 ⟨e, _, hD⟩
      rw [List.length_map, List.take_length] at hD
      exact q D H1 (pick m ys) e hD0 hD ⟨pick_perm hg.2 hperm, by rw [pick_keys]; exact hsort⟩
end
end RM

set_option Elab.async false
set_option linter.all false
set_option maxRecDepth 100000
set_option maxHeartbeats 2000000
namespace RM
open PySem PySem.Spec PyProof.Rows L2
section
variable {P : Program} {w : World} {K : PySem.W.Frag} {mg : Str → Option Value} {base : Heap}
/-! ### Change(..), Surroundings(..) -/
/-- an object of the class at C whose field f is a dict of words m, ascending -/
def MapAt (H : Hp) (C : Addr) (f : Str) (a : Addr) (m : WM) : Prop := ∃ dx p, H a = some (.ins C dx [(f, .ref p)]) ∧ H p = some (.dK (mK m)) ∧ okM m ∧ sortedS (m.map (·.1)) = true
theorem MapAt.keep {H H' : Hp} {C : Addr} {f : Str} {a : Addr} {m : WM} (e : Same H H') (h : MapAt H C f a m) : MapAt H' C f a m := let ⟨dx, p, h1, h2, h3⟩ := h; ⟨dx, p, e _ _ h1, e _ _ h2, h3⟩
theorem okM_perm {m m2 : WM} (h : okM m) (p : m2.Perm m) : okM m2 := ⟨fun q hq => h.1 q (p.mem_iff.mp hq), (p.map _).nodup_iff.mpr h.2⟩
def spMapInit (C : Addr) (f : Str) (least : Nat) : Sp := fun vs H Q _ => match vs with
  | [x, v] => ∃ a dx b m, x = .ref a ∧ v = .ref b ∧ H a = some (.ins C dx []) ∧ H b = some (.dK (mK m)) ∧ okM m ∧ least ≤ m.length ∧ m.length ≤ 4 ∧
    ∀ H' m2, (∀ b u, b ≠ a → H b = some u → H' b = some u) → MapAt H' C f a m2 → m2.Perm m → Q .non H'
  | _ => False
theorem sc_Change_init : FnScope ["self", "values"] ["self", "values"] (defScope s_Change_init) := ⟨rfl, rfl, rfl, by decide +kernel, rfl, by decide +kernel, by decide +kernel⟩
theorem c_Change_init (T : Top w K mg) : Mak P w K mg base CX0 4 "Change" (He.ga K "Change") (spMapInit (He.ga K "Change") "given" 0) := by
  refine mak_0 (f_Change_init T) (mk_Change T) (g_Change T) sc_Change_init (fun _ _ _ _ _ _ us hl => match us, hl with | [_, _], _ => rfl) (fun vs H Q E h => match vs, h with | [_, _], _ => rfl) (fun cdv A outer s H vs Q E hr h => ?_)
  match vs, h with
  | [x, v], h =>
  obtain ⟨a, dx, b, m, rfl, rfl, ha, hb, hg, h1, h2, q⟩ := h
  refine ⟨_, (pss_one (ps_fld (pv 0) (pc (c_checked T) hr (pa_cons (pv 1) (pa_cons pe_int pa_nil))) rfl)), ?_⟩
  refine ⟨_, rfl, b, m, 0, rfl, rfl, hb, hg, h1, h2, fun p H1 m2 e1 np hp st => ?_⟩
  have ha1 := e1 _ _ ha
  have pa : p ≠ a := fun z => by rw [z, ha] at np; cases np
  refine ⟨_, rfl, a, _, dx, [], rfl, ha1, k_Change T, na_Change_given T, by decide, ?_⟩
  refine q _ m2 (fun c u hc hu => by rw [upd_ne hc]; exact e1 _ _ hu) ⟨dx, p, upd_same, by rw [upd_ne pa]; exact hp, okM_perm hg st.1, st.2⟩ st.1
end
end RM

set_option Elab.async false
set_option linter.all false
set_option maxRecDepth 100000
set_option maxHeartbeats 2000000
/-! reading set comprehensions of texts; rising texts are one -/
namespace RM
open PySem PySem.Spec PyProof.Rows L2
theorem small_scan {n : Nat} (h : n ≤ 1000) : n + 1 < scanBound := by unfold scanBound; omega
/-- one clause -/
theorem scX_of {P : Program} {w : World} {J : It} {n : Nat} {G : Hp → Prop} {Y : Nat → Hp → V → Hp → Prop} (wk : Walk J n G Y) {g : TG} {tt : TT} {te : TE} {vs : List Nat} {σ : L2.St} {H1 : Hp} {D : Addr} {Qd : Hp → Prop}
    (o : Nat → Option Str) (hD : H1 D = none) (hn : n ≤ 1000) (hG : ∀ H, Same H1 H → G H)
    (hs : ∀ i x H H' (N : Hp → Prop), i < n → Same H1 H → Y i H x H' →
      (∀ H4 k, o i = some k → Same H H4 → ∃ c l, V.str k = .str c ∧ H4 D = some (SetX P w D l) ∧ l.length + 1 < scanBound ∧ N (upd H4 D (SetX P w D (insX c l)))) → (o i = none → ∀ H3, Same H H3 → N H3) →
      g x (wipe σ vs) H' fun σ2 H2 => wipe σ2 vs = wipe σ vs ∧ tt σ2 H2 fun b H3 => if b = true then addsX P w D te σ2 H3 N else N H3)
    (hd : ∀ H l, Same H1 H → H D = some (SetX P w D l) → l.length ≤ n → (∀ k, k ∈ l ↔ ∃ i, i < n ∧ o i = some k) → Qd H) :
    ∃ W : Nat → Nat → Hp → Prop, (∃ m, W 0 m (upd H1 D (SetX P w D []))) ∧ Turns J g tt (addsX P w D te) (wipe σ vs) vs W Qd := by
  refine ⟨fun i m H => m = n - i ∧ i ≤ n ∧ Same H1 H ∧ ∃ l, H D = some (SetX P w D l) ∧ l.length ≤ i ∧ ∀ k, k ∈ l ↔ ∃ j, j < i ∧ o j = some k, ⟨n, by simp, Nat.zero_le _, smNew1 hD _, [], upd_same, Nat.le_refl _, fun k => ⟨fun z => by simp at z, fun ⟨j, h, _⟩ => by omega⟩⟩, ?_⟩
  rintro i m H ⟨rfl, hi, s1, l, hl, hll, hm⟩
  by_cases hlt : i < n
  · refine .inr ⟨wk.goes i H hlt (hG H s1), fun H' => Same H1 H' ∧ ∃ l, H' D = some (SetX P w D l) ∧ l.length ≤ i + 1 ∧ ∀ k, k ∈ l ↔ ∃ j, j < i + 1 ∧ o j = some k, fun H' p' => ⟨n - (i + 1), by omega, rfl, hlt, p'⟩, fun x H' y => ?_⟩
    refine hs i x H H' _ hlt s1 (wk.yields i H x H' hlt (hG H s1) y) (fun H4 k ho s4 => ⟨k, l, rfl, s4 _ _ hl, small_scan (by omega), fun b u q => ?_, insX k l, upd_same, Nat.le_trans insX_len (by omega), fun k' => ?_⟩) fun ho H3 s3 => ⟨s1.trans s3, l, s3 _ _ hl, by omega, fun k' => ?_⟩
    · rw [upd_ne (ne_of_none q hD)]
      exact s4 _ _ (s1 _ _ q)
    · rw [insX_mem, hm]
      constructor
      · rintro (rfl | ⟨j, hj, e⟩)
        · exact ⟨i, by omega, ho⟩
        · exact ⟨j, by omega, e⟩
      · rintro ⟨j, hj, e⟩
        by_cases hji : j = i
        · subst hji
          rw [ho] at e
          exact .inl (Option.some.inj e).symm
        · exact .inr ⟨j, by omega, e⟩
    · rw [hm]
      constructor
      · rintro ⟨j, hj, e⟩
        exact ⟨j, by omega, e⟩
      · rintro ⟨j, hj, e⟩
        by_cases hji : j = i
        · subst hji
          rw [ho] at e
          cases e
        · exact ⟨j, by omega, e⟩
  · have e : i = n := by omega
    subst e
    exact .inl ⟨wk.stops H (hG H s1), hd H l s1 hl hll hm⟩
/-- the inner clause's loop: the texts f 0 .. f (n1 - 1) go in -/
theorem scX_in {P : Program} {w : World} {J1 : It} {n1 : Nat} {G1 : Hp → Prop} {Y1 : Nat → Hp → V → Hp → Prop} (wk : Walk J1 n1 G1 Y1) {g1 : TG} {tt1 : TT} {te : TE} {vs1 : List Nat} {σ2 : L2.St} {H0 H4 : Hp} {D : Addr} {N : Hp → Prop} {l0 : List Str}
    (f : Nat → Str) (hD : H0 D = none) (h4 : Same H0 H4) (hl0 : H4 D = some (SetX P w D l0)) (hn : l0.length + n1 ≤ 1000) (hG : ∀ H, Same H0 H → G1 H)
    (hs : ∀ j x H H' (N1 : Hp → Prop), j < n1 → Same H0 H → Y1 j H x H' →
      (∀ H7, Same H H7 → ∃ c l, V.str (f j) = .str c ∧ H7 D = some (SetX P w D l) ∧ l.length + 1 < scanBound ∧ N1 (upd H7 D (SetX P w D (insX c l)))) →
      g1 x (wipe σ2 vs1) H' fun σ3 H5 => wipe σ3 vs1 = wipe σ2 vs1 ∧ tt1 σ3 H5 fun b H6 => if b = true then addsX P w D te σ3 H6 N1 else N1 H6)
    (hd : ∀ H l, Same H0 H → H D = some (SetX P w D l) → l.length ≤ l0.length + n1 → (∀ k, k ∈ l ↔ k ∈ l0 ∨ ∃ j, j < n1 ∧ f j = k) → N H) :
    ∃ W1 : Nat → Nat → Hp → Prop, (∃ m, W1 0 m H4) ∧ Turns J1 g1 tt1 (addsX P w D te) (wipe σ2 vs1) vs1 W1 N := by
  refine ⟨fun i m H => m = n1 - i ∧ i ≤ n1 ∧ Same H0 H ∧ ∃ l, H D = some (SetX P w D l) ∧ l.length ≤ l0.length + i ∧ ∀ k, k ∈ l ↔ k ∈ l0 ∨ ∃ j, j < i ∧ f j = k, ⟨n1, by simp, Nat.zero_le _, h4, l0, hl0, Nat.le_refl _, fun k => ⟨.inl, fun z => z.elim id fun ⟨j, h, _⟩ => by omega⟩⟩, ?_⟩
  rintro i m H ⟨rfl, hi, s1, l, hl, hll, hm⟩
  by_cases hlt : i < n1
  · refine .inr ⟨wk.goes i H hlt (hG H s1), fun H' => Same H0 H' ∧ ∃ l, H' D = some (SetX P w D l) ∧ l.length ≤ l0.length + (i + 1) ∧ ∀ k, k ∈ l ↔ k ∈ l0 ∨ ∃ j, j < i + 1 ∧ f j = k, fun H' p' => ⟨n1 - (i + 1), by omega, rfl, hlt, p'⟩, fun x H' y => ?_⟩
    refine hs i x H H' _ hlt s1 (wk.yields i H x H' hlt (hG H s1) y) fun H7 s7 => ⟨f i, l, rfl, s7 _ _ hl, small_scan (by omega), fun b u q => ?_, insX (f i) l, upd_same, Nat.le_trans insX_len (by omega), fun k' => ?_⟩
    · rw [upd_ne (ne_of_none q hD)]
      exact s7 _ _ (s1 _ _ q)
    · rw [insX_mem, hm]
      constructor
      · rintro (rfl | h | ⟨j, hj, e⟩)
        · exact .inr ⟨i, by omega, rfl⟩
        · exact .inl h
        · exact .inr ⟨j, by omega, e⟩
      · rintro (h | ⟨j, hj, e⟩)
        · exact .inr (.inl h)
        · by_cases hji : j = i
          · subst hji
            exact .inl e.symm
          · exact .inr (.inr ⟨j, by omega, e⟩)
  · have e : i = n1 := by omega
    subst e
    exact .inl ⟨wk.stops H (hG H s1), hd H l s1 hl hll hm⟩
/-! ### rising texts -/
/-- the members zs, each once, in the order of texts -/
def KeysOf (ks zs : List Str) : Prop := sortedS ks = true ∧ ks.Nodup ∧ ∀ k, k ∈ ks ↔ k ∈ zs
theorem rising_pw : ∀ (l : List Str) (p : Str), risingS p l = true → (p :: l).Pairwise fun a b => ¬ b.cps.toList < a.cps.toList
  | [], p, _ => List.pairwise_singleton _ _
  | x :: r, p, h => by
    have h' : (!ltCps x.cps.toList p.cps.toList && risingS x r) = true := h
    rw [Bool.and_eq_true] at h'
    have ih := rising_pw r x h'.2
    have h1 : ¬ x.cps.toList < p.cps.toList := fun z => by
      have := h'.1
      rw [ltCps_eq, decide_eq_true z] at this
      cases this
    refine List.pairwise_cons.mpr ⟨fun y hy => ?_, ih⟩
    rcases List.mem_cons.mp hy with rfl | hy
    · exact h1
    · have h2 := (List.pairwise_cons.mp ih).1 y hy
      exact List.not_lt.mpr (List.le_trans (List.not_lt.mp h1) (List.not_lt.mp h2))
theorem sorted_pw : ∀ {l : List Str}, sortedS l = true → l.Pairwise fun a b => ¬ b.cps.toList < a.cps.toList
  | [], _ => .nil
  | x :: r, h => rising_pw r x h
theorem str_antisymm {a b : Str} (h1 : ¬ b.cps.toList < a.cps.toList) (h2 : ¬ a.cps.toList < b.cps.toList) : a = b := by
  have e := List.le_antisymm (List.not_lt.mp h1) (List.not_lt.mp h2)
  obtain ⟨⟨x⟩⟩ := a
  obtain ⟨⟨y⟩⟩ := b
  have e' : x = y := e
  rw [e']
theorem pw_one : ∀ {l m : List Str}, l.Pairwise (fun a b => ¬ b.cps.toList < a.cps.toList) → m.Pairwise (fun a b => ¬ b.cps.toList < a.cps.toList) → l.Nodup → m.Nodup → (∀ k, k ∈ l ↔ k ∈ m) → l = m
  | [], [], _, _, _, _, _ => rfl
  | [], y :: m, _, _, _, _, h => by simpa using (h y).mpr List.mem_cons_self
  | x :: l, [], _, _, _, _, h => by simpa using (h x).mp List.mem_cons_self
  | x :: l, y :: m, hl, hm, nl, nm, h => by
    obtain ⟨l1, l2⟩ := List.pairwise_cons.mp hl
    obtain ⟨m1, m2⟩ := List.pairwise_cons.mp hm
    obtain ⟨a1, a2⟩ := List.nodup_cons.mp nl
    obtain ⟨b1, b2⟩ := List.nodup_cons.mp nm
    have e : x = y := by
      rcases List.mem_cons.mp ((h x).mp List.mem_cons_self) with e | hx
      · exact e
      · rcases List.mem_cons.mp ((h y).mpr List.mem_cons_self) with e | hy
        · exact e.symm
        · exact str_antisymm (l1 y hy) (m1 x hx)
    subst e
    rw [pw_one l2 m2 a2 b2 fun k => ?_]
    constructor
    · intro hk
      rcases List.mem_cons.mp ((h k).mp (List.mem_cons_of_mem _ hk)) with e | z
      · exact absurd (e ▸ hk) a1
      · exact z
    · intro hk
      rcases List.mem_cons.mp ((h k).mpr (List.mem_cons_of_mem _ hk)) with e | z
      · exact absurd (e ▸ hk) b1
      · exact z
theorem KeysOf.one {ks ks' zs zs' : List Str} (a : KeysOf ks zs) (b : KeysOf ks' zs') (h : ∀ k, k ∈ zs ↔ k ∈ zs') : ks = ks' :=
  pw_one (sorted_pw a.1) (sorted_pw b.1) a.2.1 b.2.1 fun k => (a.2.2 k).trans ((h k).trans (b.2.2 k).symm)
theorem KeysOf.of {ks l zs : List Str} (p : ks.Perm l) (nd : l.Nodup) (s : sortedS ks = true) (h : ∀ k, k ∈ l ↔ k ∈ zs) : KeysOf ks zs := ⟨s, p.nodup_iff.mpr nd, fun k => p.mem_iff.trans (h k)⟩
end RM

set_option Elab.async false
set_option linter.all false
set_option maxRecDepth 100000
set_option maxHeartbeats 2000000
/-! dicts of words: what is got, put over one another -/
namespace RM
open PySem PySem.Spec PyProof.Rows L2
def wKeys (m : WM) : List Str := m.map (·.1)
def wVals (m : WM) : List Int := m.map (·.2)
def wGet (m : WM) (k : Str) : Option Int := (m.find? fun q => decide (q.1 = k)).map (·.2)
theorem wGet_nil (k : Str) : wGet [] k = none := rfl
theorem wGet_cons (p : Str × Int) (r : WM) (k : Str) : wGet (p :: r) k = if p.1 = k then some p.2 else wGet r k := by
  unfold wGet
  by_cases e : p.1 = k
  · rw [List.find?_cons_of_pos (by simpa using e), if_pos e]
    rfl
  · rw [List.find?_cons_of_neg (by simpa using e), if_neg e]
theorem wGet_none {m : WM} {k : Str} : wGet m k = none ↔ k ∉ wKeys m := by
  induction m with
  | nil => simp [wGet_nil, wKeys]
  | cons p r ih =>
    rw [wGet_cons]
    show _ ↔ k ∉ p.1 :: wKeys r
    by_cases e : p.1 = k
    · rw [if_pos e, e]
      simp
    · rw [if_neg e, ih, List.mem_cons, not_or]
      exact ⟨fun h => ⟨Ne.symm e, h⟩, fun h => h.2⟩
theorem wGet_mem {m : WM} (hn : (wKeys m).Nodup) {q : Str × Int} (h : q ∈ m) : wGet m q.1 = some q.2 := by
  induction m with
  | nil => simp at h
  | cons p r ih =>
    have hn' : (p.1 :: wKeys r).Nodup := hn
    rw [List.nodup_cons] at hn'
    rw [wGet_cons]
    rcases List.mem_cons.mp h with rfl | h
    · rw [if_pos rfl]
    · rw [if_neg fun e => hn'.1 (by rw [e]; exact List.mem_map.mpr ⟨q, h, rfl⟩)]
      exact ih hn'.2 h
theorem wGet_some {m : WM} {k : Str} {n : Int} (h : wGet m k = some n) : (k, n) ∈ m := by
  induction m with
  | nil => simp [wGet_nil] at h
  | cons p r ih =>
    rw [wGet_cons] at h
    by_cases e : p.1 = k
    · rw [if_pos e] at h
      rw [← e, ← Option.some.inj h]
      exact List.mem_cons_self
    · rw [if_neg e] at h
      exact List.mem_cons_of_mem _ (ih h)
theorem wGet_perm {m g : WM} (hn : (wKeys g).Nodup) (p : m.Perm g) (k : Str) : wGet m k = wGet g k := by
  have hm : (wKeys m).Nodup := (p.map _).nodup_iff.mpr hn
  cases e : wGet m k with
  | none =>
    symm
    rw [wGet_none] at e ⊢
    exact fun h => e ((p.map (·.1)).mem_iff.mpr h)
  | some n => exact (wGet_mem hn (q := (k, n)) (p.mem_iff.mp (wGet_some e))).symm
theorem valV_get (m : WM) (k : Str) : valV (mK m) (Sum.inr k) = (wGet m k).map V.int := by
  induction m with
  | nil => rfl
  | cons p r ih =>
    rw [wGet_cons]
    show valV ((Sum.inr p.1, V.int p.2) :: mK r) (Sum.inr k) = _
    by_cases e : p.1 = k
    · rw [valV_pos (by show Sum.inr p.1 = _; rw [e]), if_pos e]
      rfl
    · rw [valV_neg (by show ¬ Sum.inr p.1 = _; exact fun z => e (Sum.inr.inj z)), if_neg e, ih]
def wPut (m : WM) (k : Str) (n : Int) : WM := if k ∈ wKeys m then m.map (fun q => if q.1 = k then (k, n) else q) else m ++ [(k, n)]
theorem putK_w (m : WM) (k : Str) (n : Int) : putK (mK m) (Sum.inr k) (.int n) = mK (wPut m k n) := by
  have a : ((mK m).any fun kv => decide (kv.1 = Sum.inr k)) = decide (k ∈ wKeys m) := by
    rw [Bool.eq_iff_iff, List.any_eq_true, decide_eq_true_iff]
    constructor
    · rintro ⟨kv, h, e⟩
      obtain ⟨q, hq, rfl⟩ := List.mem_map.mp h
      exact List.mem_map.mpr ⟨q, hq, Sum.inr.inj (of_decide_eq_true e)⟩
    · intro h
      obtain ⟨q, hq, e⟩ := List.mem_map.mp h
      exact ⟨(Sum.inr q.1, .int q.2), List.mem_map.mpr ⟨q, hq, rfl⟩, decide_eq_true (by rw [e])⟩
  unfold putK wPut
  rw [a]
  by_cases h : k ∈ wKeys m
  · rw [if_pos (decide_eq_true h), if_pos h]
    unfold mK
    rw [List.map_map, List.map_map]
    refine List.map_congr_left fun q _ => ?_
    show (if Sum.inr q.1 = Sum.inr k then _ else _) = (fun q : Str × Int => ((Sum.inr q.1 : Key), V.int q.2)) (if q.1 = k then (k, n) else q)
    by_cases e : q.1 = k
    · rw [if_pos (by rw [e]), if_pos e]
      show (Sum.inr q.1, V.int n) = (Sum.inr k, V.int n)
      rw [e]
    · rw [if_neg (fun z => e (Sum.inr.inj z)), if_neg e]
  · rw [if_neg (by simpa using h), if_neg h]
    unfold mK
    rw [List.map_append]
    rfl
theorem wKeys_put (m : WM) (k : Str) (n : Int) : wKeys (wPut m k n) = if k ∈ wKeys m then wKeys m else wKeys m ++ [k] := by
  unfold wPut
  by_cases h : k ∈ wKeys m
  · rw [if_pos h, if_pos h]
    unfold wKeys
    rw [List.map_map]
    refine List.map_congr_left fun q _ => ?_
    show (if q.1 = k then (k, n) else q).1 = q.1
    by_cases e : q.1 = k
    · rw [if_pos e, e]
    · rw [if_neg e]
  · rw [if_neg h, if_neg h]
    unfold wKeys
    rw [List.map_append]
    rfl
theorem wGet_app (m : WM) (k j : Str) (n : Int) : wGet (m ++ [(k, n)]) j = (wGet m j).or (if k = j then some n else none) := by
  induction m with
  | nil => rw [List.nil_append, wGet_cons]; rfl
  | cons p r ih =>
    rw [List.cons_append, wGet_cons, wGet_cons, ih]
    by_cases e : p.1 = j
    · rw [if_pos e, if_pos e]
      rfl
    · rw [if_neg e, if_neg e]
theorem wGet_put (m : WM) (k j : Str) (n : Int) : wGet (wPut m k n) j = if k = j then some n else wGet m j := by
  unfold wPut
  by_cases h : k ∈ wKeys m
  · rw [if_pos h]
    by_cases e : k = j
    · rw [if_pos e, ← e]
      clear e j
      induction m with
      | nil => simp [wKeys] at h
      | cons p r ih =>
        rw [List.map_cons, wGet_cons]
        by_cases e : p.1 = k
        · rw [if_pos e, if_pos rfl]
        · rw [if_neg e, if_neg e]
          have h' : k ∈ p.1 :: wKeys r := h
          rcases List.mem_cons.mp h' with z | z
          · exact absurd z.symm e
          · exact ih z
    · rw [if_neg e]
      clear h
      induction m with
      | nil => rfl
      | cons p r ih =>
        rw [List.map_cons, wGet_cons, wGet_cons, ih]
        by_cases q : p.1 = k
        · rw [if_pos q, if_neg e, if_neg (by rw [q]; exact e)]
        · rw [if_neg q]
  · rw [if_neg h, wGet_app]
    by_cases e : k = j
    · rw [if_pos e, if_pos e, ← e, wGet_none.mpr h]
      rfl
    · rw [if_neg e, if_neg e, Option.or_none]
/-- g over m -/
def wOver (m g : WM) : WM := g.foldl (fun acc q => wPut acc q.1 q.2) m
theorem mergeK_w (m g : WM) : mergeK (mK m) (mK g) = mK (wOver m g) := by
  induction g generalizing m with
  | nil => rfl
  | cons q r ih =>
    show mergeK (putK (mK m) (Sum.inr q.1) (.int q.2)) (mK r) = mK (wOver (wPut m q.1 q.2) r)
    rw [putK_w, ih]
theorem nodup_put {m : WM} (h : (wKeys m).Nodup) (k : Str) (n : Int) : (wKeys (wPut m k n)).Nodup := by
  rw [wKeys_put]
  by_cases e : k ∈ wKeys m
  · rw [if_pos e]
    exact h
  · rw [if_neg e]
    refine List.nodup_append.mpr ⟨h, by simp, fun x hx y hy z => ?_⟩
    rw [List.mem_singleton.mp hy] at z
    exact e (z ▸ hx)
theorem nodup_over {m : WM} (h : (wKeys m).Nodup) (g : WM) : (wKeys (wOver m g)).Nodup := by
  induction g generalizing m with
  | nil => exact h
  | cons q r ih => exact ih (nodup_put h q.1 q.2)
theorem wGet_over {m g : WM} (h : (wKeys g).Nodup) (k : Str) : wGet (wOver m g) k = (wGet g k).or (wGet m k) := by
  induction g generalizing m with
  | nil => rw [wGet_nil]; rfl
  | cons q r ih =>
    have h' : (q.1 :: wKeys r).Nodup := h
    rw [List.nodup_cons] at h'
    show wGet (wOver (wPut m q.1 q.2) r) k = _
    rw [ih h'.2, wGet_put, wGet_cons]
    by_cases e : q.1 = k
    · rw [if_pos e, if_pos e, wGet_none.mpr (by rw [← e]; exact h'.1)]
      rfl
    · rw [if_neg e, if_neg e]
theorem wKeys_over {m g : WM} (h : ∀ k ∈ wKeys g, k ∈ wKeys m) : wKeys (wOver m g) = wKeys m := by
  induction g generalizing m with
  | nil => rfl
  | cons q r ih =>
    have hq : q.1 ∈ wKeys m := h _ List.mem_cons_self
    have e : wKeys (wPut m q.1 q.2) = wKeys m := by rw [wKeys_put, if_pos hq]
    show wKeys (wOver (wPut m q.1 q.2) r) = _
    rw [ih (fun k hk => by rw [e]; exact h _ (List.mem_cons_of_mem _ hk)), e]
/-- a map is told by its keys and what is got -/
theorem w_ext {m : WM} (hn : (wKeys m).Nodup) : m = (wKeys m).map fun k => (k, (wGet m k).getD 0) := by
  have key : ∀ l : WM, (∀ q ∈ l, q ∈ m) → l = (wKeys l).map fun k => (k, (wGet m k).getD 0) := by
    intro l
    induction l with
    | nil => intro _; rfl
    | cons q r ih =>
      intro hl
      show q :: r = (q.1, (wGet m q.1).getD 0) :: _
      rw [wGet_mem hn (hl q List.mem_cons_self)]
      exact congrArg _ (ih fun x hx => hl x (List.mem_cons_of_mem _ hx))
  exact key m fun _ h => h
theorem okM_put {m : WM} (h : okM m) {k : Str} {n : Int} (hk : isWord k = true) (hn : isValue n = true) : okM (wPut m k n) := by
  refine ⟨fun q hq => ?_, nodup_put h.2 k n⟩
  unfold wPut at hq
  split at hq
  · obtain ⟨p, hp, rfl⟩ := List.mem_map.mp hq
    by_cases e : p.1 = k
    · rw [if_pos e]
      exact ⟨hk, hn⟩
    · rw [if_neg e]
      exact h.1 p hp
  · rcases List.mem_append.mp hq with hq | hq
    · exact h.1 q hq
    · rw [List.mem_singleton.mp hq]
      exact ⟨hk, hn⟩
theorem okM_over {m g : WM} (h : okM m) (hg : ∀ q ∈ g, isWord q.1 = true ∧ isValue q.2 = true) : okM (wOver m g) := by
  induction g generalizing m with
  | nil => exact h
  | cons q r ih =>
    obtain ⟨h1, h2⟩ := hg q List.mem_cons_self
    exact ih (okM_put h h1 h2) fun x hx => hg x (List.mem_cons_of_mem _ hx)
theorem wOver_nil {m : WM} (hn : (wKeys m).Nodup) : wOver [] m = m := by
  have key : ∀ (g acc : WM), (wKeys (acc ++ g)).Nodup → wOver acc g = acc ++ g := by
    intro g
    induction g with
    | nil => intro acc _; rw [List.append_nil]; rfl
    | cons q r ih =>
      intro acc h
      have hq : q.1 ∉ wKeys acc := by
        unfold wKeys at h ⊢
        rw [List.map_append, List.nodup_append] at h
        exact fun z => h.2.2 q.1 z q.1 List.mem_cons_self rfl
      have e : wPut acc q.1 q.2 = acc ++ [q] := by unfold wPut; rw [if_neg hq]
      show wOver (wPut acc q.1 q.2) r = _
      rw [e, ih (acc ++ [q]) (by rw [List.append_assoc]; exact h), List.append_assoc]
      rfl
  exact key m [] hn
/-! ### ascending keys are one alone -/
theorem sort_one {m m2 : WM} (p : m2.Perm m) (hn : (wKeys m).Nodup) (s1 : sortedS (wKeys m) = true) (s2 : sortedS (wKeys m2) = true) : m2 = m := by
  have n2 : (wKeys m2).Nodup := (p.map _).nodup_iff.mpr hn
  have e : wKeys m2 = wKeys m := pw_one (sorted_pw s2) (sorted_pw s1) n2 hn fun k => (p.map (·.1)).mem_iff
  rw [w_ext n2, w_ext hn, e]
  exact List.map_congr_left fun k _ => by rw [wGet_perm hn p k]
end RM

set_option Elab.async false
set_option linter.all false
set_option maxRecDepth 100000
set_option maxHeartbeats 2000000
namespace RM
open PySem PySem.Spec PyProof.Rows L2
theorem room0 {k : Nat} {A : Around} (hr : Room k A) : A.units < cLine := by have := hr.un; omega
theorem rd_lock {H : Hp} {b p : Addr} {u v : HO} {od : Obj} (hb : H b = some u) (hp : H p = some v) : Rd (upd H p (.frz od v)) b u := by
  by_cases e : b = p
  · rw [e, hp] at hb
    cases hb
    rw [e]
    exact .inr ⟨od, upd_same⟩
  · exact .inl (by rw [upd_ne e]; exact hb)
theorem same_back {H H' : Hp} {p : Addr} {u : HO} {od : Obj} (hp : H p = some u) (e : Same (upd H p (.frz od u)) H') : Same H (upd H' p u) := fun b o hb => by
  by_cases z : b = p
  · rw [z] at hb ⊢
    rw [upd_same, ← hb, hp]
  · rw [upd_ne z]
    exact e _ _ (by rw [upd_ne z]; exact hb)
section
variable {P : Program} {w : World} {K : PySem.W.Frag} {mg : Str → Option Value} {base : Heap}
def ChgAt (K : PySem.W.Frag) (H : Hp) (a : Addr) (m : WM) : Prop := MapAt H (He.ga K "Change") "given" a m ∧ m.length ≤ 4
theorem ChgAt.keep {H H' : Hp} {a : Addr} {m : WM} (e : Same H H') (h : ChgAt K H a m) : ChgAt K H' a m := ⟨h.1.keep e, h.2⟩
theorem ChgAt.ok {H : Hp} {a : Addr} {m : WM} (h : ChgAt K H a m) : okM m ∧ sortedS (wKeys m) = true := let ⟨⟨_, _, _, _, a, b⟩, _⟩ := h; ⟨a, b⟩
end
end RM

set_option Elab.async false
set_option linter.all false
set_option maxRecDepth 100000
set_option maxHeartbeats 2000000
namespace RM
open PySem PySem.Spec PyProof.Rows L2
section
variable {P : Program} {w : World} {K : PySem.W.Frag} {mg : Str → Option Value} {base : Heap}
/-! ### settings -/
def spSettings (K : PySem.W.Frag) : Sp := fun vs H Q _ => match vs with
  | [x] => ∃ a m, x = .ref a ∧ ChgAt K H a m ∧ ∀ p H', Same H H' → H p = none → H' p = some (.dK (mK m)) → Q (.ref p) H'
  | _ => False
theorem sc_Change_settings : FnScope ["self", "key"] ["self"] (defScope s_Change_settings) := ⟨rfl, rfl, rfl, by decide +kernel, rfl, by decide +kernel, by decide +kernel⟩
theorem c_Change_settings (T : Top w K mg) : Met P w K mg base CX0 2 (He.ga K "Change") "settings" (spSettings K) := by
  refine met_0 (f_Change_settings T) (k_Change T) (me_Change_settings T) sc_Change_settings (fun _ _ _ _ _ _ us hl => match us, hl with | [_], _ => rfl) (fun vs H Q E h => match vs, h with | [_], _ => rfl) (fun cdv A outer s H vs Q E hr h => ?_)
  match vs, h with
  | [x], h =>
  obtain ⟨a, m, rfl, ⟨⟨dx, p, ha, hp, hg, hs⟩, hl⟩, q⟩ := h
  refine ⟨_, (pss_one (ps_ret (pe_lock (pe_dc (own := [("key", 1)]) rfl sc_Change_settings.nd (pi_keys (pe_fld (pv 0) rfl)) (blkOk_by (own := [("key", 1)]) (N := ["self", "key"]) (sc := defScope s_Change_settings) (by decide +kernel)) (fun _ _ _ _ _ => (pg_name (i := 1) sc_Change_settings.nd rfl (Or.inl rfl) (Or.inr rfl))) (fun _ _ _ _ _ => pts_nil) (fun _ _ _ _ _ => (pv 1)) (fun _ _ _ _ _ => (pe_dget (hu_of hr) (pe_fld' (K := K) rfl (pv 0) rfl) (pv 1) (fun _ _ => rfl))))))), ?_⟩
  have pa : a ≠ p := fun z => by
    rw [z, hp] at ha
    cases ha
  refine ⟨p, .dK (mK m), hp, trivial, fun od => ?_⟩
  have haL : (upd H p (.frz od (.dK (mK m)))) a = some (.ins (He.ga K "Change") dx [("given", .ref p)]) := by rw [upd_ne pa]; exact ha
  refine ⟨_, rfl, a, _, dx, _, _, rfl, haL, k_Change T, na_Change_given T, rfl, p, od, rfl, .inl ⟨mK m, upd_same, fun D nD => ?_⟩⟩
  have lm : (mK m).length = m.length := List.length_map ..
  refine dc_walk walk_keys (fun i H' => Same (upd H p (.frz od (.dK (mK m)))) H' ∧ H' D = some (.dK (mK (m.take i)))) ⟨smNew1 nD _, upd_same⟩ (fun i H' _ h => h.1 _ _ upd_same) ?_ ?_
  · rintro i x H1 H2 hi ⟨e, hD⟩ ⟨rfl, k, v, hk, rfl⟩
    obtain ⟨z, hz, rfl, rfl⟩ := mK_get hk
    have hm := List.mem_of_getElem? hz
    have il := (List.getElem?_eq_some_iff.mp hz).1
    refine ⟨rfl, yesI ?_⟩
    refine ⟨_, rfl, _, rfl, a, _, dx, _, _, rfl, e _ _ haL, k_Change T, na_Change_given T, rfl, _, rfl, p, .int z.2, rfl, .inl ⟨mK m, .inr z.1, .inr ⟨od, e _ _ upd_same⟩, rfl, (valV_mK hg.2 z hm).symm⟩, mK (m.take i), .inr z.1, rfl, hD, small1000 ?_, ?_⟩
    · show ((m.take i).map _).length ≤ 1000
      rw [List.length_map, List.length_take]
      omega
    · have hne : z.1 ∉ (m.take i).map (·.1) := by
        intro hin
        obtain ⟨j, hj, ej⟩ := List.mem_iff_getElem.mp hin
        rw [List.getElem_map, List.getElem_take] at ej
        have jl : j < i := by rw [List.length_map, List.length_take] at hj; omega
        have e2 : (m.map (·.1))[j]'(by rw [List.length_map]; omega) = (m.map (·.1))[i]'(by rw [List.length_map]; omega) := by
          rw [List.getElem_map, List.getElem_map, ej, (List.getElem?_eq_some_iff.mp hz).2]
        have := (List.getElem_inj (h₀ := by rw [List.length_map]; omega) (h₁ := by rw [List.length_map]; omega) hg.2).mp e2
        omega
      rw [put_new hne]
      refine ⟨smOut e nD _, ?_⟩
      rw [upd_same, List.take_add_one, hz]
      rfl
  · rintro H1 ⟨e, hD⟩
    rw [lm, List.take_length] at hD
    have eH := e _ _ (upd_same : (upd H p (.frz od (.dK (mK m)))) p = _)
    have Dp : D ≠ p := fun z => by
      rw [z] at hD
      rw [hD] at eH
      cases eH
    refine ⟨eH, q D _ (same_back hp e) ?_ (by rw [upd_ne Dp]; exact hD)⟩
    rw [upd_ne Dp] at nD
    exact nD
end
end RM

set_option Elab.async false
set_option linter.all false
set_option maxRecDepth 100000
set_option maxHeartbeats 2000000
/-! dicts whose keys are texts, numbers, None and short tuples, in any mix: what stands at a key -/
namespace RM
open PySem PySem.Spec PyProof.Rows L2
/-- the entries' keys are ks, each once -/
structure Tb (w : World) (h : Heap) (ents : Array DictEntry) (ks : List NestedKey) : Prop where
  all : Paired (fun (k : NestedKey) (e : DictEntry) => NestedIs h k e.key ∧ k.depth ≤ 4 ∧ e.hash = k.hash w) ks ents.toList
  nd : ks.Nodup
theorem pr_left {α β : Type} {F : α → β → Prop} : ∀ {l : List α} {m : List β}, Paired F l m → ∀ {i : Nat} {a : α}, l[i]? = some a → ∃ b, m[i]? = some b ∧ F a b
  | _, _, .nil, i, a, h => by simp at h
  | _, _, .cons r t, 0, a, h => by
    have e := Option.some.inj h
    subst e
    exact ⟨_, rfl, r⟩
  | _, _, .cons r t, i + 1, a, h => pr_left t (i := i) (by simpa using h)
theorem pr_right {α β : Type} {F : α → β → Prop} : ∀ {l : List α} {m : List β}, Paired F l m → ∀ {i : Nat} {b : β}, m[i]? = some b → ∃ a, l[i]? = some a ∧ F a b
  | _, _, .nil, i, a, h => by simp at h
  | _, _, .cons r t, 0, a, h => by
    have e := Option.some.inj h
    subst e
    exact ⟨_, rfl, r⟩
  | _, _, .cons r t, i + 1, a, h => pr_right t (i := i) (by simpa using h)
section
variable {P : Program} {w : World} {A : Around} {E : Value → Shared → Prop} {s : Shared} {d : Addr} {ents : Array DictEntry} {ks : List NestedKey} {key : Value} {k : NestedKey} {o : Obj} {ep : Nat} {Q : Option Nat → Shared → Prop}
theorem Tb.entry (T : Tb w s.heap ents ks) {i : Nat} {e : DictEntry} (h : ents[i]? = some e) : ∃ k, ks[i]? = some k ∧ NestedIs s.heap k e.key ∧ k.depth ≤ 4 ∧ e.hash = k.hash w :=
  pr_right T.all (by rw [Array.getElem?_toList]; exact h)
theorem Tb.atKey (T : Tb w s.heap ents ks) {i : Nat} {k : NestedKey} (h : ks[i]? = some k) : ∃ e, ents[i]? = some e ∧ NestedIs s.heap k e.key ∧ k.depth ≤ 4 ∧ e.hash = k.hash w := by
  obtain ⟨e, he, q⟩ := pr_left T.all h
  exact ⟨e, by rw [← Array.getElem?_toList]; exact he, q⟩
theorem Tb.size (T : Tb w s.heap ents ks) : ks.length = ents.size := by rw [Paired.length T.all, Array.length_toList]
theorem Tb.one (T : Tb w s.heap ents ks) {i j : Nat} (h : ks[i]? = some k) (h' : ks[j]? = some k) : i = j :=
  (List.getElem?_inj (List.getElem?_eq_some_iff.mp h).1 T.nd).mp (h.trans h'.symm)
/-- what a look-up finds -/
def FoundG (ks : List NestedKey) (k : NestedKey) : Option Nat → Prop
  | none => k ∉ ks
  | some i => ks[i]? = some k
abbrev placesG (w : World) (ents : Array DictEntry) (k : NestedKey) : List Nat := placesWithHash ents.size (fun i => ents[i]?.map (·.hash)) (k.hash w)
theorem place_in {i : Nat} : i ∈ placesG w ents k ↔ ∃ e, ents[i]? = some e ∧ e.hash = k.hash w := by
  unfold placesG placesWithHash
  rw [List.mem_filter, List.mem_range]
  constructor
  · rintro ⟨h1, h2⟩
    obtain ⟨e, he⟩ : ∃ e, ents[i]? = some e := ⟨ents[i], Array.getElem?_eq_getElem h1⟩
    have h3 : (ents[i]?.map (·.hash) == some (k.hash w)) = true := h2
    rw [he] at h3
    exact ⟨e, he, by simpa using h3⟩
  · rintro ⟨e, he, hh⟩
    refine ⟨(Array.getElem?_eq_some_iff.mp he).1, ?_⟩
    show (ents[i]?.map (·.hash) == some (k.hash w)) = true
    rw [he]
    simpa using hh
theorem place_nd : (placesG w ents k).Nodup := List.Pairwise.filter _ List.nodup_range
theorem Tb.place (T : Tb w s.heap ents ks) {i : Nat} (h : ks[i]? = some k) : i ∈ placesG w ents k :=
  let ⟨e, he, _, _, hh⟩ := T.atKey h
  place_in.mpr ⟨e, he, hh⟩
theorem Tb.not (T : Tb w s.heap ents ks) (h : ∀ i ∈ placesG w ents k, ks[i]? ≠ some k) : k ∉ ks := fun m => by
  obtain ⟨i, hi⟩ := List.mem_iff_getElem?.mp m
  exact h i (T.place hi) hi
/-- the keys' own == -/
theorem key_eq {x : NestedKey} {a : Value} {R : Bool → Shared → Prop} (hu : A.units + 4 < cLine) (ra : NestedIs s.heap x a) (rb : NestedIs s.heap k key) (dx : x.depth ≤ 4) (dk : k.depth ≤ 4) (q : R (decide (x = k)) s) : wpAny (model P w) A (eqBool a key) R E s := by
  refine eqAt_key x k A s a key ra rb (by have := Nat.min_le_left x.depth k.depth; omega) P w E R ?_
  rw [← NestedKey.decide_eq]
  exact q
theorem stored_in {v : Value} (h : v ∈ (placesG w ents k).filterMap fun i => ents[i]?.map fun e : DictEntry => e.key) : ∃ (i : Nat) (e : DictEntry), ents[i]? = some e ∧ v = e.key := by
  obtain ⟨i, _, hi⟩ := List.mem_filterMap.mp h
  obtain ⟨e, he, rfl⟩ := Option.map_eq_some_iff.mp hi
  exact ⟨i, e, he, rfl⟩
/-- all keys by value -/
theorem walk_g (T : Tb w s.heap ents ks) (hu : A.units + 4 < cLine) (ho : s.heap.get? d = some o) (hd : o.data = .dict ents ep) (rk : NestedIs s.heap k key) (dk : k.depth ≤ 4) (q : ∀ r, FoundG ks k r → Q r s) :
    wpAny (model P w) A (dictWalkPlain d key (k.hash w) ents (placesG w ents k)) Q E s := by
  unfold dictWalkPlain
  refine wpAny_bind ?_
  refine wpAny_forIn_list _ (fun rest b s' => s' = s ∧ b = (none, ()) ∧ ∃ done, placesG w ents k = done ++ rest ∧ ∀ i ∈ done, ks[i]? ≠ some k) _ ?_ ?_ _ _ ⟨rfl, rfl, [], rfl, fun _ h => by simp at h⟩
  · rintro x rest b s' ⟨rfl, rfl, done, hp, hno⟩
    obtain ⟨e, he, hh⟩ := place_in.mp (show x ∈ placesG w ents k by rw [hp]; simp)
    obtain ⟨k', hk', ik', dk', _⟩ := T.entry he
    have next : k' ≠ k → ∃ done, placesG w ents k = done ++ rest ∧ ∀ i ∈ done, ks[i]? ≠ some k := fun ne =>
      ⟨done ++ [x], by rw [hp]; simp, fun i hi => by
        rcases List.mem_append.mp hi with h | h
        · exact hno i h
        · rw [List.mem_singleton.mp h, hk']
          exact fun z => ne (Option.some.inj z)⟩
    simp only [he]
    rw [if_pos (by rw [hh]; simp)]
    refine wpAny_bind (wpAny_dictEpoch ho hd (wpAny_bind (key_eq hu ik' rk dk' dk (wpAny_bind (wpAny_dictEpoch ho hd ?_)))))
    show wpAny _ _ (if (ep != ep) = true then _ else _) _ E _
    rw [if_neg (by simp)]
    by_cases c : k' = k
    · rw [decide_eq_true c]
      subst c
      refine wpAny_bind (wpAny_rule ?_)
      exact wpAny_pure (wpAny_pure (q (some x) hk'))
    · rw [decide_eq_false c]
      refine wpAny_bind (wpAny_rule ?_)
      exact wpAny_pure ⟨rfl, rfl, next c⟩
  · rintro b s' ⟨rfl, rfl, done, hp, hno⟩
    exact wpAny_pure (q none (T.not fun i hi => hno i (by rw [hp, List.append_nil] at hi; exact hi)))

/-- the general walk: keys that stand in the heap among them -/
theorem tell_g (T : Tb w s.heap ents ks) (rk : NestedIs s.heap k key) (dk : k.depth ≤ 4) {R : Bool → Shared → Prop} (q : R false s) :
    wpAny (model P w) A (tableMayTell key ((placesG w ents k).filterMap fun i => ents[i]?.map fun e : DictEntry => e.key)) R E s := by
  unfold tableMayTell
  by_cases c : ((placesG w ents k).filterMap fun i => ents[i]?.map fun e : DictEntry => e.key).isEmpty = true
  · rw [if_pos c]
    exact wpAny_pure q
  rw [if_neg c]
  refine wpAny_bind (quiet_key k key 8 s rk (by omega) A E _ ?_)
  rw [if_neg (by simp)]
  refine wpAny_bind ?_
  refine wpAny_forIn_list _ (fun rest b s' => s' = s ∧ b = (none, ()) ∧ ∀ v ∈ rest, ∃ k' : NestedKey, NestedIs s.heap k' v ∧ k'.depth ≤ 4) _ ?_ ?_ _ _ ⟨rfl, rfl, fun v hv => ?_⟩
  · rintro x rest b s' ⟨rfl, rfl, hv⟩
    obtain ⟨k', ik, dk'⟩ := hv x List.mem_cons_self
    refine wpAny_bind (quiet_key k' x 8 s' ik (by omega) A E _ ?_)
    rw [if_neg (by simp)]
    exact wpAny_pure ⟨rfl, rfl, fun v m => hv v (List.mem_cons_of_mem _ m)⟩
  · rintro b s' ⟨rfl, rfl, _⟩
    exact wpAny_pure q
  · obtain ⟨i, e, he, rfl⟩ := stored_in hv
    obtain ⟨k', _, ik, dk', _⟩ := T.entry he
    exact ⟨k', ik, dk'⟩
/-- a text among texts alone -/
theorem byText_g {z : Str} {t : Tok} (T : Tb w s.heap ents ks) (hu : A.units + 4 < cLine) (ho : s.heap.get? d = some o) (hd : o.data = .dict ents ep) (rk : NestedIs s.heap k (.str z t)) (dk : k.depth ≤ 4)
    (hall : (ents.all fun e => isExactStrKey e.key) = true) (q : ∀ r, FoundG ks k r → Q r s) : wpAny (model P w) A (foundByValue d (.str z t) ents z) Q E s := by
  have ek : k = .text z := by cases rk; rfl
  subst ek
  have same : ∀ {i : Nat} {e : DictEntry}, ents[i]? = some e → (e.key.isStr z = true ↔ ks[i]? = some (.text z)) := fun {i e} he => by
    obtain ⟨k', hk', ik, _, _⟩ := T.entry he
    rw [hk']
    have ex : isExactStrKey e.key = true := by
      rw [Array.all_eq_true] at hall
      obtain ⟨hi, rfl⟩ := Array.getElem?_eq_some_iff.mp he
      exact hall i hi
    generalize e.key = kv at ik ex
    cases ik with
    | text x u =>
      constructor
      · intro h
        have : x = z := by simpa [Value.isStr] using h
        rw [this]
      · intro h
        have : x = z := NestedKey.text.inj (Option.some.inj h)
        simpa [Value.isStr] using this
    | _ => cases ex
  unfold foundByValue
  cases hf : ents.findIdx? (·.key.isStr z) with
  | none =>
    refine wpAny_pure (q none fun m => ?_)
    obtain ⟨i, hi⟩ := List.mem_iff_getElem?.mp m
    obtain ⟨e, he, _⟩ := T.atKey hi
    have := (same he).mpr hi
    rw [Array.findIdx?_eq_none_iff] at hf
    have h2 := hf e (Array.mem_of_getElem? he)
    rw [h2] at this
    cases this
  | some i =>
    rw [Array.findIdx?_eq_some_iff_getElem] at hf
    obtain ⟨hi, hp, _⟩ := hf
    have he : ents[i]? = some ents[i] := Array.getElem?_eq_getElem hi
    dsimp only
    rw [he]
    dsimp only
    have hk := (same he).mp hp
    obtain ⟨k', hk', ik, dk', _⟩ := T.entry he
    rw [hk] at hk'
    have e2 := Option.some.inj hk'
    subst e2
    refine wpAny_bind (wpAny_dictEpoch ho hd (wpAny_bind (key_eq hu ik rk dk' dk (wpAny_bind (wpAny_dictEpoch ho hd ?_)))))
    show wpAny _ _ (if (ep != ep) = true then _ else _) _ E _
    rw [if_neg (by simp), decide_eq_true rfl]
    refine wpAny_bind (wpAny_rule ?_)
    exact wpAny_pure (q (some i) hk)
/-- what the walk has come to -/
def HitG (ks : List NestedKey) (k : NestedKey) (done : List Nat) : Option Nat → Prop
  | none => ∀ i ∈ done, ks[i]? ≠ some k
  | some j => ks[j]? = some k ∧ j ∈ done
theorem hit_on {done : List Nat} {x : Nat} {k' : NestedKey} {hit : Option Nat} (h : HitG ks k done hit) (hx : ks[x]? = some k') (ne : k' ≠ k) : HitG ks k (done ++ [x]) hit := by
  cases hit with
  | none =>
    intro i hi
    rcases List.mem_append.mp hi with z | z
    · exact h i z
    · rw [List.mem_singleton.mp z, hx]
      exact fun e => ne (Option.some.inj e)
  | some j => exact ⟨h.1, List.mem_append_left _ h.2⟩
theorem hit_found (T : Tb w s.heap ents ks) {done : List Nat} {hit : Option Nat} (h : HitG ks k done hit) (hp : placesG w ents k = done) : FoundG ks k hit := by
  cases hit with
  | none => exact T.not fun i hi => h i (hp ▸ hi)
  | some j => exact h.1
theorem ite_go {α : Type} {M : Model} {c : Prop} [Decidable c] {x y : Sem α} {R : α → Shared → Prop} (h1 : c → wpAny M A x R E s) (h2 : ¬ c → wpAny M A y R E s) : wpAny M A (if c then x else y) R E s := by
  by_cases h : c
  · rw [if_pos h]
    exact h1 h
  · rw [if_neg h]
    exact h2 h
/-- where a key stands -/
theorem find_g (T : Tb w s.heap ents ks) (hu : A.units + 4 < cLine) (ho : s.heap.get? d = some o) (hd : o.data = .dict ents ep) (rk : NestedIs s.heap k key) (dk : k.depth ≤ 4) (q : ∀ r, FoundG ks k r → Q r s) :
    wpAny (model P w) A (dictFind d key (k.hash w)) Q E s := by
  have noChange : ¬ (ents.any fun e => e.key == key && e.hash != k.hash w) = true := by
    rw [← Array.any_toList, List.any_eq_true]
    rintro ⟨e, he, hc⟩
    obtain ⟨i, hi⟩ := List.mem_iff_getElem?.mp he
    obtain ⟨k', hk', ik, _, hh⟩ := T.entry (i := i) (e := e) (by rw [← Array.getElem?_toList]; exact hi)
    rw [Bool.and_eq_true, beq_iff_eq, bne_iff_ne] at hc
    rw [hc.1] at ik
    exact hc.2 (by rw [hh, NestedIs.inj _ _ _ ik rk])
  unfold dictFind
  refine wpAny_holding (wpAny_bind (wpAny_dictEntries ho hd ?_))
  have rk' := rk; clear rk
  cases key
  all_goals
    dsimp only
    try
      by_cases hall : (ents.all fun e => isExactStrKey e.key) = true
      · rw [if_pos hall]
        exact byText_g T hu ho hd rk' dk hall q
      rw [if_neg hall]
    refine ite_go (fun _ => walk_g T hu ho hd rk' dk q) fun _ => ?_
    try rw [if_neg noChange]
    refine ite_go (fun _ => wpAny_bind (wpAny_pure ?_)) fun _ => wpAny_bind (tell_g T rk' dk ?_)
    all_goals
      rw [if_neg (by simp)]
      refine wpAny_bind ?_
      refine wpAny_forIn_list _ (fun rest b s' => s' = s ∧ ∃ hit, b = (none, hit) ∧ ∃ done, placesG w ents k = done ++ rest ∧ HitG ks k done hit) _ ?_ ?_ _ _ ⟨rfl, none, rfl, [], rfl, fun _ h => by simp at h⟩
      · rintro x rest b s' ⟨rfl, hit, rfl, done, hp, hH⟩
        obtain ⟨e, he, hh⟩ := place_in.mp (show x ∈ placesG w ents k by rw [hp]; simp)
        obtain ⟨k', hk', ik', dk', _⟩ := T.entry he
        have hp2 : placesG w ents k = (done ++ [x]) ++ rest := by rw [hp]; simp
        simp only [he]
        rw [if_pos (by rw [hh]; simp)]
        refine wpAny_bind (wpAny_dictEpoch ho hd (wpAny_bind (key_eq hu ik' rk' dk' dk (wpAny_bind (wpAny_dictEpoch ho hd ?_)))))
        show wpAny _ _ (if (ep != ep) = true then _ else _) _ E _
        rw [if_neg (by simp)]
        by_cases c : k' = k
        · subst c
          have hn : hit = none := by
            cases hit with
            | none => rfl
            | some j =>
              have := T.one hH.1 hk'
              subst this
              have nd : (placesG w ents k').Nodup := place_nd
              rw [hp] at nd
              exact absurd rfl ((List.nodup_append.mp nd).2.2 j hH.2 j List.mem_cons_self)
          subst hn
          rw [decide_eq_true rfl]
          simp only [Option.isSome_none, Bool.false_eq_true, if_false, if_true]
          refine wpAny_bind (wpAny_rule ?_)
          split
          · exact wpAny_pure (wpAny_pure (q (some x) hk'))
          · exact wpAny_pure ⟨rfl, some x, rfl, done ++ [x], hp2, hk', by simp⟩
        · rw [decide_eq_false c]
          simp only [Bool.false_eq_true, if_false, Bool.false_and]
          refine wpAny_bind (wpAny_rule ?_)
          exact wpAny_pure ⟨rfl, hit, rfl, done ++ [x], hp2, hit_on hH hk' c⟩
      · rintro b s' ⟨rfl, hit, rfl, done, hp, hH⟩
        exact wpAny_pure (q hit (hit_found T hH (by rw [hp, List.append_nil])))
end
end RM

set_option Elab.async false
set_option linter.all false
set_option maxRecDepth 100000
set_option maxHeartbeats 2000000
/-! such a dict as a tracked thing; dicts of texts and numbers seen so, and back -/
namespace RM
open PySem PySem.Spec PyProof.Rows L2
/-- an entry: its key, what key it is, its value -/
abbrev GE := V × NestedKey × V
def EntG (w : World) (p : GE) (e : DictEntry) : Prop := RelV p.1 e.key ∧ e.hash = p.2.1.hash w ∧ RelV p.2.2 e.val
def GD (w : World) (h : Heap) (d : Addr) (es : List GE) : Prop := (d == sysModules) = false ∧ es.length ≤ 1000 ∧ ∃ ents ep, h.DictRaw d ents ep ∧ Paired (EntG w) es ents.toList
def gO (w : World) (d : Addr) (es : List GE) : HO := .ext fun h => GD w h d es
/-- what key a thing is -/
inductive KeyG (K : PySem.W.Frag) (H : Hp) : V → NestedKey → Prop
  | str (z : Str) : KeyG K H (.str z) (.text z)
  | int (i : Int) : KeyG K H (.int i) (.num i)
  | non : KeyG K H .non .none
  | one {t : Addr} {z : Str} (h : SqT K H t [.str z]) : KeyG K H (.ref t) (.tup [.text z])
structure OkG (K : PySem.W.Frag) (H : Hp) (es : List GE) : Prop where
  key : ∀ p ∈ es, KeyG K H p.1 p.2.1
  nd : (es.map (·.2.1)).Nodup
theorem KeyG.keep {K : PySem.W.Frag} {H H' : Hp} {v : V} {k : NestedKey} (h : KeyG K H v k) (e : ∀ a xs, SqT K H a xs → SqT K H' a xs) : KeyG K H' v k := by
  cases h with
  | str z => exact .str z
  | int i => exact .int i
  | non => exact .non
  | one h => exact .one (e _ _ h)
theorem OkG.keep {K : PySem.W.Frag} {H H' : Hp} {es : List GE} (h : OkG K H es) (e : ∀ a xs, SqT K H a xs → SqT K H' a xs) : OkG K H' es := ⟨fun p hp => (h.key p hp).keep e, h.nd⟩
theorem ts_ext {K : PySem.W.Frag} {H : Hp} {d : Addr} {φ : Heap → Prop} {o : HO} (e : H d = some (.ext φ)) : ∀ a xs, SqT K H a xs → SqT K (upd H d o) a xs := fun a xs h => by
  rcases h with h | h
  · have ne : a ≠ d := fun z => by
      rcases h with h | ⟨o, h⟩ <;> (rw [z, e] at h; cases h)
    rcases h with h | ⟨o, h⟩
    · exact .inl (.inl (by rw [upd_ne ne]; exact h))
    · exact .inl (.inr ⟨o, by rw [upd_ne ne]; exact h⟩)
  · exact .inr h
/-- the value at a key -/
def atG (es : List GE) (k : NestedKey) : Option V := (es.find? fun p => decide (p.2.1 = k)).map (·.2.2)
/-- put in its place, or at the end -/
def putG (es : List GE) (i : V) (k : NestedKey) (v : V) : List GE := if k ∈ es.map (·.2.1) then es.map fun p => if p.2.1 = k then (p.1, k, v) else p else es ++ [(i, k, v)]
theorem putG_keys (es : List GE) (i : V) (k : NestedKey) (v : V) : (putG es i k v).map (·.2.1) = if k ∈ es.map (·.2.1) then es.map (·.2.1) else es.map (·.2.1) ++ [k] := by
  unfold putG
  by_cases c : k ∈ es.map (·.2.1)
  · rw [if_pos c, if_pos c, List.map_map]
    refine List.map_congr_left fun p _ => ?_
    by_cases z : p.2.1 = k
    · simp [z]
    · simp [z]
  · rw [if_neg c, if_neg c, List.map_append]
    rfl
theorem putG_len (es : List GE) (i : V) (k : NestedKey) (v : V) : (putG es i k v).length ≤ es.length + 1 := by
  unfold putG
  split
  · rw [List.length_map]; omega
  · rw [List.length_append]; exact Nat.le_refl _
theorem OkG.put {K : PySem.W.Frag} {H : Hp} {es : List GE} {i v : V} {k : NestedKey} (h : OkG K H es) (hk : KeyG K H i k) : OkG K H (putG es i k v) := by
  refine ⟨fun p hp => ?_, ?_⟩
  · unfold putG at hp
    split at hp
    · obtain ⟨q, hq, rfl⟩ := List.mem_map.mp hp
      by_cases z : q.2.1 = k
      · rw [if_pos z]
        have := h.key q hq
        rw [z] at this
        exact this
      · rw [if_neg z]
        exact h.key q hq
    · rcases List.mem_append.mp hp with z | z
      · exact h.key p z
      · rw [List.mem_singleton.mp z]
        exact hk
  · rw [putG_keys]
    split
    · exact h.nd
    · rename_i c
      exact List.nodup_append.mpr ⟨h.nd, by simp, fun a ha b hb e => c (by rw [List.mem_singleton.mp hb] at e; exact e ▸ ha)⟩
section
variable {X : Cx} {pins : List (Addr × Obj)} {σ : L2.St} {H : Hp} {s : Shared} {d : Addr} {es : List GE}
theorem KeyG.is {v : V} {k : NestedKey} {u : Value} (I : Inv X pins σ H s) (h : KeyG X.K H v k) (r : RelV v u) : NestedIs s.heap k u ∧ k.depth ≤ 4 := by
  cases h with
  | str z => obtain ⟨t, e⟩ := (show ∃ t, u = Value.str z t from r); subst e; exact ⟨.text z t, Nat.zero_le _⟩
  | int i => obtain ⟨t, e⟩ := (show ∃ t, u = Value.int i t from r); subst e; exact ⟨.int i t, Nat.zero_le _⟩
  | non => cases (show u = Value.none from r); exact ⟨.none, Nat.zero_le _⟩
  | @one t z h =>
    cases (show u = Value.ref t from r)
    obtain ⟨its, rv, ⟨o, e1, e2, n, e3⟩, _⟩ := I.tuple h
    refine ⟨.tup e1 e2 e3 ?_, by show 0 + 1 ≤ 4; omega⟩
    cases rv with
    | cons r1 r2 =>
      cases r2
      obtain ⟨t', e⟩ := (show ∃ t, _ = Value.str z t from r1)
      subst e
      exact .cons (.text z t') .nil
theorem pr_mem {α β : Type} {F : α → β → Prop} : ∀ {l : List α} {m : List β}, Paired F l m → ∀ {G : α → β → Prop}, (∀ a ∈ l, ∀ b, F a b → G a b) → Paired G l m
  | _, _, .nil, _, _ => .nil
  | _, _, .cons r t, _, f => .cons (f _ List.mem_cons_self _ r) (pr_mem t fun a ha b hb => f a (List.mem_cons_of_mem _ ha) b hb)
theorem pr_map {α β γ : Type} {F : γ → β → Prop} (g : α → γ) : ∀ {l : List α} {m : List β}, Paired (fun a b => F (g a) b) l m → Paired F (l.map g) m
  | _, _, .nil => .nil
  | _, _, .cons r t => .cons r (pr_map g t)
/-- the entries as a table -/
theorem tb_of {ents : Array DictEntry} (I : Inv X pins σ H s) (ok : OkG X.K H es) (p : Paired (EntG X.w) es ents.toList) : Tb X.w s.heap ents (es.map (·.2.1)) :=
  ⟨pr_map (fun q : GE => q.2.1) (pr_mem p fun a ha b hb => by
    obtain ⟨h1, h2⟩ := (ok.key a ha).is I hb.1
    exact ⟨h1, h2, hb.2.1⟩), ok.nd⟩
theorem gd_of (I : Inv X pins σ H s) (e : Rd H d (gO X.w d es)) : GD X.w s.heap d es := by
  rcases e with e | ⟨o, e⟩
  · exact (I.hok d _ e).1
  · exact (I.hok d _ e).2.1
theorem gd_new {P : Program} {w : World} {H' : Hp} {h : Heap} (g : GD w h d es) : ObjOk P w H' h d (gO w d es) := by
  refine ⟨g, ?_, fun h1 h2 p k => ?_⟩
  · obtain ⟨_, _, _, _, ⟨o, e, _⟩, _⟩ := g
    exact ⟨o, e⟩
  · obtain ⟨a, b, c, f, r, q⟩ := p
    exact ⟨a, b, c, f, r.at k, q⟩
theorem get_raw {P : Program} {w : World} {A : Around} {E : Value → Shared → Prop} {s : Shared} {ents : Array DictEntry} {ep : Nat} {ks : List NestedKey} {k : NestedKey} {key : Value} {Q : Value → Shared → Prop} (hu : A.units + 8 < cLine) (T : Tb w s.heap ents ks) (R : s.heap.DictRaw d ents ep)
    (rk : NestedIs s.heap k key) (dk : k.depth ≤ 4) {i : Nat} (hi : ks[i]? = some k) (q : ∀ e t, ents[i]? = some e → Q e.val { s with toks := t }) : wpAny (model P w) A (getItem (.ref d) key) Q E s := by
  obtain ⟨o, ho, hc, hd⟩ := id R
  have ty : s.TypeIs (.ref d) "dict" := ⟨o, ho, hc.1⟩
  unfold getItem
  refine wpAny_holding (wpAny_bind (wpAny_sequenceKey ty (by decide) ?_))
  refine wpAny_bind (wpAny_callSpecial?_slot (name := Str.ofString "__getitem__") ty F.slot_dict_getitem (wpAny_call_entry F.slot_dict_getitem ty F.entry_dict_getitem ?_ (F.args_dict_getitem_2 _ _)))
  show wpAny _ _ (dictGet d key >>= _) _ _ s
  refine wpAny_bind ?_
  unfold dictGet
  refine wpAny_holding (wpAny_bind (pyHash_key k key _ s _ rk ?_ (wpAny_bind (find_g (s := { s with toks := s.toks + k.draws }) T ?_ ho hd rk dk fun r hr => ?_))))
  · show A.units + 1 + k.depth < cLine
    omega
  · show A.units + 1 + 4 < cLine
    omega
  · cases r with
    | none => exact absurd (List.mem_of_getElem? hi) hr
    | some j =>
      have := T.one hi hr
      subst this
      obtain ⟨e, he, _⟩ := T.atKey hi
      refine wpAny_bind (wpAny_dictEntries (s := { s with toks := s.toks + k.draws }) ho hd ?_)
      rw [he]
      exact wpAny_pure (wpAny_pure ⟨e.val, rfl, wpAny_pure (q e _ he)⟩)
theorem upd_toList {ents : Array DictEntry} (i : Nat) (f : DictEntry → DictEntry) : (ents.modify i f).toList = ents.toList.modify i f := by
  rw [Array.toList_modify]
theorem pr_keep {α β : Type} {F G : α → β → Prop} {g : α → α} : ∀ {l : List α} {m : List β}, Paired F l m → (∀ (i : Nat) a b, l[i]? = some a → F a b → G (g a) b) → Paired G (l.map g) m
  | _, _, .nil, _ => .nil
  | _, _, .cons r t, h => .cons (h 0 _ _ rfl r) (pr_keep t fun i a b e f => h (i + 1) a b (by simpa using e) f)
theorem pr_mod {α β : Type} {F G : α → β → Prop} {g : α → α} {f : β → β} : ∀ {l : List α} {m : List β} (j : Nat), Paired F l m → (∀ (i : Nat) a b, l[i]? = some a → F a b → G (g a) (if i = j then f b else b)) → Paired G (l.map g) (m.modify j f)
  | _, _, j, .nil, _ => by
    cases j <;> exact .nil
  | _, _, 0, .cons r t, h => .cons (by have := h 0 _ _ rfl r; rw [if_pos rfl] at this; exact this) (pr_keep t fun i a b e f => by
      have := h (i + 1) a b (by simpa using e) f
      rw [if_neg (by omega)] at this
      exact this)
  | _, _, j + 1, .cons r t, h => .cons (by have := h 0 _ _ rfl r; rw [if_neg (by omega)] at this; exact this) (pr_mod j t fun i a b e f => by
      have := h (i + 1) a b (by simpa using e) f
      by_cases z : i = j
      · rw [if_pos (by omega)] at this
        rw [if_pos z]
        exact this
      · rw [if_neg (by omega)] at this
        rw [if_neg z]
        exact this)
theorem pr_app {α β : Type} {F : α → β → Prop} : ∀ {l : List α} {m : List β} {l' : List α} {m' : List β}, Paired F l m → Paired F l' m' → Paired F (l ++ l') (m ++ m')
  | _, _, _, _, .nil, h => h
  | _, _, _, _, .cons r t, h => .cons r (pr_app t h)
theorem set_raw {P : Program} {w : World} {A : Around} {E : Value → Shared → Prop} {s : Shared} {ents : Array DictEntry} {ep : Nat} {k : NestedKey} {key val : Value} {i v : V} {Q : Unit → Shared → Prop} (hu : A.units + 8 < cLine) (T : Tb w s.heap ents (es.map (·.2.1))) (R : s.heap.DictRaw d ents ep) (hp : Paired (EntG w) es ents.toList)
    (rk : NestedIs s.heap k key) (dk : k.depth ≤ 4) (ri : RelV i key) (rv : RelV v val) (few : es.length < 1000)
    (q : ∀ h' ents' ep' t, Heap.SameBut d s.heap h' → h'.DictRaw d ents' ep' → Paired (EntG w) (putG es i k v) ents'.toList → Q () { s with heap := h', toks := t }) : wpAny (model P w) A (setItem (.ref d) key val) Q E s := by
  obtain ⟨o, ho, hc, hd⟩ := id R
  have ty : s.TypeIs (.ref d) "dict" := ⟨o, ho, hc.1⟩
  have sz := T.size
  rw [List.length_map] at sz
  unfold setItem
  refine wpAny_holding (wpAny_bind (wpAny_sequenceKey ty (by decide) ?_))
  refine wpAny_bind (wpAny_callSpecial?_slot (name := Str.ofString "__setitem__") ty F.slot_dict_setitem (wpAny_call_entry F.slot_dict_setitem ty F.entry_dict_setitem ?_ (F.args_dict_setitem_3 _ _ _)))
  show wpAny _ _ (Builtin.Dict.notOrdered "__setitem__" ⟨[.ref d, key, val], []⟩ >>= _) _ _ s
  refine wpAny_bind (wpAny_notOrdered_dict ty ?_)
  show wpAny _ _ (dictSet d key val >>= _) _ _ s
  refine wpAny_bind ?_
  unfold dictSet
  refine wpAny_holding (wpAny_bind (pyHash_key k key _ s _ rk ?_ ?_))
  · show A.units + 1 + k.depth < cLine
    omega
  unfold dictSetHashed
  refine wpAny_holding (wpAny_bind (find_g (s := { s with toks := s.toks + k.draws }) T ?_ ho hd rk dk fun r hr => ?_))
  · show A.units + 1 + 4 < cLine
    omega
  cases r with
  | none =>
    refine wpAny_bind (wpAny_rule (wpAny_updateDictKeys (s := { s with toks := s.toks + k.draws }) (hz := by rw [← sz]; exact Nat.le_of_lt (Nat.lt_trans few (by decide))) ho hd ?_))
    refine wpAny_pure ⟨.none, rfl, wpAny_pure (q _ _ (ep + 1) _ (Heap.SameBut.update _ _ _) ⟨_, Heap.get?_update_self _ ho (Obj.isFreed_of_dict (Obj.data_mapDictKeys hd _)), hc.mapDictKeys _, Obj.data_mapDictKeys hd _⟩ ?_)⟩
    have c : ¬ k ∈ es.map (·.2.1) := hr
    unfold putG
    rw [if_neg c, Array.toList_push]
    exact pr_app hp (.cons ⟨ri, rfl, rv⟩ .nil)
  | some j =>
    have hj : (es.map (·.2.1))[j]? = some k := hr
    refine wpAny_bind (wpAny_rule (wpAny_bind (wpAny_updateDict (s := { s with toks := s.toks + k.draws }) (hz := by rw [Array.size_modify]; exact Nat.le_refl _) ho hd ?_)))
    refine wpAny_point ?_
    refine wpAny_pure ⟨.none, rfl, wpAny_pure (q _ _ ep _ (Heap.SameBut.update _ _ _) ⟨_, Heap.get?_update_self _ ho (Obj.isFreed_of_dict (Obj.data_mapDict hd _)), hc.mapDict _, Obj.data_mapDict hd _⟩ ?_)⟩
    have c : k ∈ es.map (·.2.1) := List.mem_of_getElem? hj
    unfold putG
    rw [if_pos c, Array.toList_modify]
    refine pr_mod j hp fun i a b hi hab => ?_
    have hi' : (es.map (·.2.1))[i]? = some a.2.1 := by rw [List.getElem?_map, hi]; rfl
    by_cases z : i = j
    · subst z
      rw [if_pos rfl]
      have ek : a.2.1 = k := Option.some.inj (hi'.symm.trans hj)
      rw [if_pos ek]
      exact ⟨hab.1, by rw [hab.2.1, ek], rv⟩
    · rw [if_neg z, if_neg fun ek => z (T.one hi' (by rw [ek]; exact hj))]
      exact hab
end
end RM

set_option Elab.async false
set_option linter.all false
set_option maxRecDepth 100000
set_option maxHeartbeats 2000000
/-! such dicts seen as dicts of texts and numbers, and back -/
namespace RM
open PySem PySem.Spec PyProof.Rows L2
def keyN : Key → NestedKey
  | .inl i => .num i
  | .inr x => .text x
theorem keyN_inj {a b : Key} (e : keyN a = keyN b) : a = b := by
  cases a <;> cases b <;> first | (cases e; rfl) | exact nomatch e
def ofK (kvs : List (Key × V)) : List GE := kvs.map fun kv => (kV kv.1, keyN kv.1, kv.2)
theorem keyN_hash (w : World) (k : Key) : (keyN k).hash w = keyH w k := by cases k <;> rfl
theorem ofK_keys (kvs : List (Key × V)) : (ofK kvs).map (·.2.1) = (kvs.map (·.1)).map keyN := by
  unfold ofK
  rw [List.map_map, List.map_map]
  rfl
theorem keyG_K {K : PySem.W.Frag} {H : Hp} (k : Key) : KeyG K H (kV k) (keyN k) := by
  cases k with
  | inl i => exact .int i
  | inr x => exact .str x
theorem okG_K {K : PySem.W.Frag} {H : Hp} {kvs : List (Key × V)} (nd : (kvs.map (·.1)).Nodup) : OkG K H (ofK kvs) := by
  refine ⟨fun p hp => ?_, ?_⟩
  · obtain ⟨kv, _, rfl⟩ := List.mem_map.mp hp
    exact keyG_K _
  · rw [ofK_keys]
    exact List.Pairwise.map _ (fun a b ne e => ne (keyN_inj e)) nd
section
variable {P : Program} {w : World} {h : Heap} {d : Addr}
theorem ent_of : ∀ {l : List DictEntry} {vs : List (Key × Value)} {kvs : List (Key × V)}, Pairs (mixKind P w) l vs → KV kvs vs → (∀ e ∈ l, ∃ k, (mixKind P w).is k e.key = true ∧ e.hash = (mixKind P w).hash k) → Paired (EntG w) (ofK kvs) l
  | _, _, _, .nil, .nil, _ => .nil
  | _, _, _, .cons (e := e) i v t, .cons (a := p) r s, hh => by
    obtain ⟨k, hk, hs⟩ := hh e List.mem_cons_self
    have ek := (mixKind P w).inj _ _ _ hk i
    subst ek
    refine .cons ⟨?_, ?_, ?_⟩ (ent_of t s fun e he => hh e (List.mem_cons_of_mem _ he))
    · show RelV (kV p.1) e.key
      rw [r.1]
      exact relV_key hk
    · show e.hash = (keyN p.1).hash w
      rw [r.1, hs, keyN_hash]
      rfl
    · show RelV p.2 e.val
      rw [v]
      exact r.2
theorem ent_to : ∀ {l : List DictEntry} {kvs : List (Key × V)}, Paired (EntG w) (ofK kvs) l → ∃ vs, KV kvs vs ∧ Pairs (mixKind P w) l vs ∧ ∀ e ∈ l, ∃ k, (mixKind P w).is k e.key = true ∧ e.hash = (mixKind P w).hash k
  | [], [], .nil => ⟨[], .nil, .nil, fun _ h => by simp at h⟩
  | e :: l, kv :: kvs, .cons r t => by
    obtain ⟨vs, h1, h2, h3⟩ := ent_to t
    have hk : (mixKind P w).is kv.1 e.key = true := kV_is r.1
    refine ⟨(kv.1, e.val) :: vs, .cons ⟨rfl, r.2.2⟩ h1, .cons hk rfl h2, fun e' he => ?_⟩
    rcases List.mem_cons.mp he with z | z
    · subst z
      exact ⟨kv.1, hk, by rw [r.2.1]; exact keyN_hash w kv.1⟩
    · exact h3 e' z
theorem g_of_dk {kvs : List (Key × V)} {H : Hp} (o : ObjOk P w H h d (.dK kvs)) (few : kvs.length ≤ 1000) : GD w h d (ofK kvs) := by
  obtain ⟨z, hd, vs, rel, o, es, ep, e1, ex, dt, ks, ps, nd⟩ := o
  exact ⟨hd, by unfold ofK; rw [List.length_map]; exact few, es, ep, ⟨o, e1, ex, dt⟩, ent_of ps rel fun e he => ks e (Array.mem_toList_iff.mp he)⟩
theorem dk_of_g {kvs : List (Key × V)} {H : Hp} (g : GD w h d (ofK kvs)) (nd : (kvs.map (·.1)).Nodup) : ObjOk P w H h d (.dK kvs) := by
  obtain ⟨hd, few, es, ep, ⟨o, e1, ex, dt⟩, pe⟩ := g
  obtain ⟨vs, h1, h2, h3⟩ := ent_to (P := P) pe
  unfold ofK at few
  rw [List.length_map] at few
  exact ⟨Nat.le_trans few (by decide), hd, vs, h1, o, es, ep, e1, ex, dt, fun e he => h3 e (Array.mem_toList_iff.mpr he), h2, by rw [← h1.keys]; exact nd⟩
end
/-- a dict seen in another way -/
inductive Cv (w : World) : Hp → Hp → Prop
  | refl {H : Hp} : Cv w H H
  | toG {H : Hp} {d : Addr} {kvs : List (Key × V)} (h : H d = some (.dK kvs)) (few : kvs.length ≤ 1000) : Cv w H (upd H d (gO w d (ofK kvs)))
  | toK {H : Hp} {d : Addr} {kvs : List (Key × V)} (h : H d = some (gO w d (ofK kvs))) (nd : (kvs.map (·.1)).Nodup) : Cv w H (upd H d (.dK kvs))
  | two {H H' H'' : Hp} (a : Cv w H H') (b : Cv w H' H'') : Cv w H H''
section
variable {X : Cx} {pins : List (Addr × Obj)} {σ : L2.St} {H H' : Hp} {s : Shared}
theorem inv_xch {d : Addr} {u o : HO} (I : Inv X pins σ H s) (h : H d = some u) (mu : Mut (some u)) (ex : ∃ q, s.heap.get? d = some q) (new : ObjOk X.prog X.w (upd H d o) s.heap d o) : Inv X pins σ (upd H d o) s :=
  I.write (x := d) (e := d) (o := o) (h' := s.heap) (t' := s.toks) (by rw [h]; exact mu) (.inl rfl) (fun _ _ _ e => e) ex new
theorem Cv.inv (c : Cv X.w H H') : ∀ {s : Shared}, Inv X pins σ H s → Inv X pins σ H' s := by
  induction c with
  | refl => exact fun I => I
  | @toG H d kvs h few =>
    intro s I
    have g := g_of_dk (I.hok d _ h) few
    obtain ⟨hd, fw, es, ep, ⟨o, e1, ex, dt⟩, pe⟩ := id g
    exact inv_xch I h True.intro ⟨o, e1⟩ (gd_new g)
  | @toK H d kvs h nd =>
    intro s I
    have g := gd_of I (.inl h)
    obtain ⟨hd, fw, es, ep, ⟨o, e1, ex, dt⟩, pe⟩ := id g
    exact inv_xch I h True.intro ⟨o, e1⟩ (dk_of_g g nd)
  | two _ _ ih1 ih2 => exact fun I => ih2 (ih1 I)
end
/-- seen in another way ahead of a statement and behind it -/
def sCv (w : World) (t : L2.TS) : L2.TS := fun D σ H => ∃ H1, Cv w H H1 ∧ t ⟨fun σ' H' => ∃ H2, Cv w H' H2 ∧ D.nx σ' H2, fun v H' => ∃ H2, Cv w H' H2 ∧ D.rt v H2, fun σ' H' => ∃ H2, Cv w H' H2 ∧ D.bk σ' H2, fun σ' H' => ∃ H2, Cv w H' H2 ∧ D.ct σ' H2⟩ σ H1
section
variable {X : Cx}
theorem ps_cv {st : Stmt} {t : L2.TS} (h : PS X st t) : PS X st (sCv X.w t) := by
  refine ⟨fun pins s σ H D I hw => ?_⟩
  obtain ⟨H1, c, hw⟩ := hw
  refine thn (h.run pins s σ _ _ (c.inv I) hw) fun f s1 q => ?_
  cases f with
  | next => obtain ⟨σ', H', I2, H2, c, q⟩ := q; exact ⟨σ', H2, c.inv I2, q⟩
  | brk => obtain ⟨σ', H', I2, H2, c, q⟩ := q; exact ⟨σ', H2, c.inv I2, q⟩
  | cont => obtain ⟨σ', H', I2, H2, c, q⟩ := q; exact ⟨σ', H2, c.inv I2, q⟩
  | ret v => obtain ⟨x, σ', H', I2, r, H2, c, q⟩ := q; exact ⟨x, σ', H2, c.inv I2, r, q⟩
end
end RM

set_option Elab.async false
set_option linter.all false
set_option maxRecDepth 100000
set_option maxHeartbeats 2000000
/-! rules over such dicts: isinstance, len, for, [], []= -/
namespace RM
open PySem PySem.Spec PyProof.Rows L2
theorem room8 {k : Nat} {A : Around} (hr : Room k A) : A.units + 8 < cLine := by have := hr.un; omega
section
variable {X : Cx} {pins : List (Addr × Obj)} {σ : L2.St} {H : Hp} {s : Shared}
/-! ### isinstance, len -/
def rIsiG (K : PySem.W.Frag) (w : World) : List V → Hp → VK → Prop := fun xs H Q => ∃ (a : Addr) (c : V) (u : Value) (es : List GE) (b : Bool), xs = [.ref a, c] ∧ ClsV c u ∧ Rd H a (gO w a es) ∧ PySem.W.kitOne K (.type "dict") u = some b ∧ Q (.bl b) H
theorem call_isiG : CallR X (.builtin "isinstance") (rIsiG X.K X.w) := by
  intro pins s σ H xs us Q I r h
  obtain ⟨a, c, u, es, b, rfl, k, ha, e, q⟩ := h
  obtain ⟨u1, u2, rfl, r1, r2⟩ := vals2 r
  have e2 := k.eq r2
  subst e2
  cases (show u1 = Value.ref a from r1)
  obtain ⟨_, _, _, _, ⟨o, e1, ex, _⟩, _⟩ := gd_of I ha
  exact PySem.W.kia_one PySem.W.kitx_dict I.kIn ⟨o, e1, ex.1⟩ e (fun z => nomatch z) fun tk => ⟨.bl b, H, I.tok tk, rfl, q⟩
theorem len_g {P : Program} {w : World} {A : Around} {E : Value → Shared → Prop} {s : Shared} {d : Addr} {ents : Array DictEntry} {ep : Nat} {Q : Value → Shared → Prop} (hd : (d == sysModules) = false) (R : s.heap.DictRaw d ents ep) (few : ents.size ≤ 1000)
    (q : ∀ t t', Q (.int ents.size t) { s with toks := t' }) : wpAny (model P w) A (call (.builtin "len") [.ref d]) Q E s := by
  refine Calls.call_function_entry kind_len plain_len entry_len (args_len1 _) ?_
  unfold Builtin.«len»
  refine wpAny_bind (m := oneArg "len" _) (wpAny_pure ?_)
  refine wpAny_bind (m := callSpecial? (.ref d) (Str.ofString "__len__")) (wpAny_callSpecial?_slot (name := Str.ofString "__len__") R.typeIs F.slot_dict_len (call_len_raw hd R ?_))
  have below : ¬ ((ents.size : Int) ≥ 2 ^ 63) := by omega
  have above : ¬ ((ents.size : Int) < 0) := by omega
  refine wpAny_bind (wpAny_holding (wpAny_pure (wpAny_bind (wpAny_letGo ?_))))
  exact ite_go (fun z => absurd z above) fun _ => ite_go (fun z => absurd z below) fun _ => wpAny_bind (wpAny_mkInt (wpAny_pure ⟨_, rfl, q _ _⟩))
def rLenG (w : World) : List V → Hp → VK → Prop := fun xs H Q => ∃ (a : Addr) (es : List GE), xs = [.ref a] ∧ Rd H a (gO w a es) ∧ Q (.int (es.length : Nat)) H
theorem call_lenG : CallR X (.builtin "len") (rLenG X.w) := by
  intro pins s σ H xs us Q I r h
  obtain ⟨a, es, rfl, ha, q⟩ := h
  obtain ⟨u, rfl, ru⟩ := vals1 r
  cases (show u = Value.ref a from ru)
  obtain ⟨hd, few, ents, ep, R, pe⟩ := gd_of I ha
  have l := Paired.length pe
  rw [Array.length_toList (xs := ents)] at l
  refine len_g hd R (by omega) fun t t' => ⟨.int (es.length : Nat), H, I.tok t', ⟨t, by rw [l]⟩, q⟩
/-! ### for -/
def Itg (w : World) (d : Addr) (o : Obj) (es : List GE) : It :=
  ⟨fun i H => H d = some (.frz o (gO w d es)) ∧ i < es.length, fun i H x H' => H' = H ∧ ∃ p, es[i]? = some p ∧ x = p.1, fun i H => H d = some (.frz o (gO w d es)) ∧ es.length ≤ i⟩
theorem frz_g {d : Addr} {o : Obj} {es : List GE} (I : Inv X pins σ H s) (h : H d = some (.frz o (gO X.w d es))) : (d == sysModules) = false ∧ s.heap.get? d = some o ∧ o.ExactDict ∧ ∃ ents ep, o.data = .dict ents ep ∧ ents.size = es.length ∧ Paired (EntG X.w) es ents.toList := by
  obtain ⟨hd, g, _⟩ := I.hok d _ h
  obtain ⟨a, _, ents, ep, ⟨o', e1, ex, dt⟩, pe⟩ := (show GD X.w s.heap d es from g)
  rw [hd] at e1
  cases e1
  have l := Paired.length pe
  rw [Array.length_toList (xs := ents)] at l
  exact ⟨a, hd, ex, ents, ep, dt, l.symm, pe⟩
theorem turn_g {K : PySem.W.Frag} {tg : Expr} {P : Program} {w : World} {d : Addr} {o : Obj} {es : List GE} {ents : Array DictEntry} {ep : Nat} (it : Addr) (hod : o.data = .dict ents ep) :
    Turn P w K tg (Itg w d o es) [it] it (fun i h => h.IsKeyIter it d i es.length ep) where
  mem := by simp
  obj := fun i h st b hb => by
    obtain rfl : b = it := by simpa using hb
    obtain ⟨oi, e, c, dd⟩ := st
    exact ⟨oi, e, fun v z => by rw [dd] at z; cases z⟩
  keep := fun i h h' st k => st.at fun oi e => k it (by simp) oi e
  item := by
    intro X hP hw hK hc i pins s σ H E I hf st hg
    subst hP hw hK
    obtain ⟨hd, hi⟩ := hg
    have ff := hf it (by simp)
    obtain ⟨hs, hgd, hx, es', ep', hdt, hsz, pe⟩ := frz_g I hd
    obtain ⟨rfl, rfl⟩ := dict_ep hod hdt
    rw [← hsz] at st
    have hi2 : i < es'.size := by omega
    refine wpAny_pyNext_keys_item_raw st ⟨o, hgd, hx, hdt⟩ hi2 fun h' st' sb => ?_
    have I1 : Inv X pins σ H { s with heap := h' } := I.turned (t' := s.toks) (fun b ob hb e => (sb.2 b hb).trans e) ff.1 ff.2.1 ff.2.2.2.1 ff.2.2.2.2.1 ff.2.2.2.2.2
    obtain ⟨oi, e, c, dd⟩ := id st'
    obtain ⟨en, he, r⟩ := pr_left pe (List.getElem?_eq_getElem hi)
    rw [Array.getElem?_toList, Array.getElem?_eq_getElem hi2] at he
    have he := Option.some.inj he
    refine ⟨_, rfl, go_of (s := { s with heap := h' }) e c dd (by decide) ⟨es[i].1, H, I1, by rw [he]; exact r.1, ⟨rfl, es[i], List.getElem?_eq_getElem hi, rfl⟩, ?_, fun b hb => (hf b hb).1⟩⟩
    show h'.IsKeyIter it d (i + 1) es.length _
    rw [← hsz]
    exact st'
  done := by
    intro X hP hw hK hc i pins s σ H E I hf st hg
    subst hP hw hK
    obtain ⟨hd, hi⟩ := hg
    have ff := hf it (by simp)
    obtain ⟨hs, hgd, hx, es', ep', hdt, hsz, pe⟩ := frz_g I hd
    obtain ⟨rfl, rfl⟩ := dict_ep hod hdt
    exact next_key_end (I.ok.hd hc) st hgd hdt hsz hi fun h' eb => ⟨rfl, I.turned (t' := s.toks) (fun b ob hb e => eb b ob hb e) ff.1 ff.2.1 ff.2.2.2.1 ff.2.2.2.2.1 ff.2.2.2.2.2⟩
  self := fun A i s Q E st h => wpAny_pyIter_keyiter st h
def iKeysG (w : World) (td : TE) : TI := fun σ H R => td σ H fun x H1 => ∃ d o es, x = .ref d ∧ H1 d = some (.frz o (gO w d es)) ∧ R (Itg w d o es) H1
theorem pi_keysG {tg e : Expr} {td : TE} (he : PE X e td) : PI X tg e (iKeysG X.w td) := by
  refine ⟨fun pins s σ H R I h => ?_⟩
  refine thn (he.run pins s σ H _ I h) fun u s1 ⟨x, H1, I1, rx, d, o, es, ex, hd, q⟩ => ?_
  subst ex
  obtain rfl : u = Value.ref d := rx
  obtain ⟨hs, hgd, hx, ents, ep, hdt, hsz, pe⟩ := frz_g I1 hd
  refine iter_keys hs hgd hx hdt (pi_one (tk := s1.toks) I1 _ (turn_g _ hdt) ⟨_, Heap.get?_push_size _ rfl, rfl, ?_⟩ q)
  rw [hsz] <;> rfl
theorem walk_g_keys {w : World} {d : Addr} {o : Obj} {es : List GE} : Walk (Itg w d o es) es.length (fun H => H d = some (.frz o (gO w d es))) (fun i H x H' => H' = H ∧ ∃ p, es[i]? = some p ∧ x = p.1) :=
  ⟨fun _ _ hi q => ⟨q, hi⟩, fun _ q => ⟨q, Nat.le_refl _⟩, fun _ _ _ _ _ _ y => y⟩
/-! ### [] -/
def tGGet (K : PySem.W.Frag) (w : World) (td ty : TE) : TE := fun σ H Q => td σ H fun x H1 => ty σ H1 fun y H2 => ∃ (a : Addr) (es : List GE) (k : NestedKey) (v i : V) (j : Nat), x = .ref a ∧ Rd H2 a (gO w a es) ∧ OkG K H2 es ∧ KeyG K H2 y k ∧ es[j]? = some (i, k, v) ∧ Q v H2
theorem pe_gget {K : PySem.W.Frag} {o i : Expr} {pos : Pos} {td ty : TE} (hK : X.K = K) (hu : X.A.units + 8 < cLine) (ho : PE X o td) (hi : PE X i ty) (hs : NoSl i) : PE X (.Subscript o i pos) (tGGet K X.w td ty) := by
  subst hK
  refine ⟨fun pins s σ H Q I h => ?_⟩
  refine subD_of PySem.F.slot_dict_getitem.lookup hs (thn (ho.run pins s σ H _ I h) fun u s1 ⟨x, H1, I1, rx, q1⟩ => thn (hi.run pins s1 σ H1 _ I1 q1) fun iv s2 ⟨y, H2, I2, ry, a, es, k, v, i', j, ex, g, ok, ky, hj, q2⟩ => ?_)
  subst ex
  obtain rfl : u = Value.ref a := rx
  obtain ⟨hd, few, ents, ep, R, pe⟩ := gd_of I2 g
  obtain ⟨rk, dk⟩ := ky.is I2 ry
  refine ⟨R.typeIs, get_raw hu (tb_of I2 ok pe) R rk dk (i := j) (by rw [List.getElem?_map, hj]; rfl) fun e t he => ?_⟩
  obtain ⟨e', he', r⟩ := pr_left pe hj
  rw [Array.getElem?_toList, he] at he'
  cases he'
  exact ⟨v, H2, I2.tok t, r.2.2, q2⟩
/-! ### []= -/
def sGPut (K : PySem.W.Frag) (w : World) (td ty tv : TE) : L2.TS := fun D σ H => tv σ H fun v H1 => td σ H1 fun x H2 => ty σ H2 fun y H3 => ∃ (a : Addr) (es : List GE) (k : NestedKey), x = .ref a ∧ H3 a = some (gO w a es) ∧ OkG K H3 es ∧ KeyG K H3 y k ∧ es.length < 1000 ∧ D.nx σ (upd H3 a (gO w a (putG es y k v)))
theorem ps_gput {o i value : Expr} {pos pos' : Pos} {td ty tv : TE} (hu : X.A.units + 8 < cLine) (ho : PE X o td) (hi : PE X i ty) (hv : PE X value tv) (hs : swapsWith value (some (.Subscript o i pos')) pos.line X.env = pure false) :
    PS X (.Assign [.Subscript o i pos'] value pos) (sGPut X.K X.w td ty tv) := by
  refine ⟨fun pins s σ H D I h => ?_⟩
  refine wpAny_Assign_Subscript (thn (hv.run pins s σ H _ I h) fun r s1 ⟨v, H1, I1, rv, q1⟩ => thn (ho.run pins s1 σ H1 _ I1 q1) fun u s2 ⟨x, H2, I2, rx, q2⟩ => thn (hi.run pins s2 σ H2 _ I2 q2) fun iv s3 ⟨y, H3, I3, ry, a, es, k, ex, g, ok, ky, few, q3⟩ => ?_) hs
  subst ex
  obtain rfl : u = Value.ref a := rx
  obtain ⟨hd, _, ents, ep, R, pe⟩ := gd_of I3 (.inl g)
  obtain ⟨rk, dk⟩ := ky.is I3 ry
  refine set_raw hu (tb_of I3 ok pe) R pe rk dk ry rv few fun h' ents' ep' t sb R' pe' => ?_
  obtain ⟨o', e', _⟩ := id R'
  refine ⟨σ, _, I3.write (x := a) (e := a) (by rw [g]; exact True.intro) (.inl rfl) (fun b o ne e => (sb.2 b ne).trans e) ⟨o', e'⟩ (gd_new ⟨hd, ?_, ents', ep', R', pe'⟩), q3⟩
  have := putG_len es y k v
  omega
end
end RM

set_option Elab.async false
set_option linter.all false
set_option maxRecDepth 100000
set_option maxHeartbeats 2000000
namespace RM
open PySem PySem.Spec PyProof.Rows L2
section
variable {P : Program} {w : World} {K : PySem.W.Frag} {mg : Str → Option Value} {base : Heap}
/-! ### an own exception with one field -/
/-- its __init__: the field holds the argument -/
def spExo (C : Addr) (f : Str) : Sp := fun vs H Q _ => match vs with
  | [x, v] => ∃ a, x = .ref a ∧ H a = some (exo a C none) ∧ ∀ dx, H dx = none → dx ≠ a → Q .non (upd (upd H dx (exd dx [(f, v)])) a (exo a C (some dx)))
  | _ => False
theorem exo_0 {qual x : Str} {C : Addr} {k : Nat} {sp : Sp} {st : Stmt} {f : Addr} {N ps : List Str} (F : ∃ fd, FunD K "__init__" qual (defArgs st) (defBody st) (defScope st) [] [] f fd) (T : OexC K C) (M : Meth K C "__init__" f) (hm : mg x = some (.ref C)) (S : FnScope N ps (defScope st))
    (hb : ∀ (kV doc pm : Value) (an : Option Addr) (cdv ct : Value) (us : List Value), us.length = ps.length → bindArgs (PySem.W.fnOf "__init__" qual (defArgs st) (defBody st) (defScope st) .none kV doc pm an cdv ct) ⟨us, []⟩ = pure (ps.zip us))
    (len : ∀ vs H Q E, sp vs H Q E → vs.length = ps.length) (h : Body0 P w K mg base N qual st f k sp) : Exo P w K mg base (k + 1) x C sp :=
  let ⟨fd, F⟩ := F
  ⟨f, fd, ps, T, M, fn_0 F S len h, hm, F.bindsN hb⟩
/-- raise C(v): what is to be shown -/
theorem raise1 {C : Addr} {f : Str} {v : V} {H : Hp} {Q : XK} (q : ∀ d H', H d = none → Same H H' → H' d = some (.xd [(f, v)]) → Q (.ref C) (some d) H') :
    [v].length ≤ 1000 ∧ ∀ a, H a = none → spExo C f (.ref a :: ([v] ++ [])) (upd H a (exo a C none))
      (fun u H2 => u = .non ∧ ∃ (d : Addr) (fs : List (Str × V)), H2 a = some (exo a C (some d)) ∧ H2 d = some (exd d fs) ∧ H d = none ∧ Q (.ref C) (some d) (upd (L2.del H2 a) d (.xd fs))) (fun _ _ _ => False) := by
  refine ⟨by show 1 ≤ 1000; omega, fun a ha => ⟨a, rfl, upd_same, fun dx h1 h2 => ⟨rfl, dx, [(f, v)], upd_same, ?_, ?_, ?_⟩⟩⟩
  · rw [upd_ne h2, upd_same]
  · rw [upd_ne h2] at h1; exact h1
  · have hd : H dx = none := by rw [upd_ne h2] at h1; exact h1
    refine q dx _ hd (fun b o hb => ?_) upd_same
    have n1 : b ≠ a := ne_of_none hb ha
    have n2 : b ≠ dx := ne_of_none hb hd
    rw [upd_ne n2, L2.del_ne n1, upd_ne n1, upd_ne n2, upd_ne n1]
    exact hb
end
/-- all but a is as it was -/
def Off (a : Addr) (H H' : Hp) : Prop := ∀ b u, b ≠ a → H b = some u → H' b = some u
/-! ### what is raised while a thing is locked: it is unlocked on the way out -/
def WUnl (X : Cx) (W : WX) : WX := fun cls dx σ H => ∃ d od u, H d = some (.frz od u) ∧ (∀ o' u', X.H_0 d ≠ some (.frz o' u')) ∧ W cls dx σ (upd H d u)
theorem takes_unl {X : Cx} {W : WX} (tk : Takes X W) : Takes X (WUnl X W) := by
  rintro u s' ⟨a, B, sI, pins, σ, H, cls, dx, e, I, nb, up, sky, na, os, ag, d, od, v, hd, hn, w⟩
  refine tk u s' ⟨a, B, sI, pins, σ, upd H d v, cls, dx, e, I.unlock hd hn, nb, up, sky, ?_, os, ag, w⟩
  rw [upd_ne fun z => by rw [z, hd] at na; cases na]
  exact na
theorem raise1U {X : Cx} {W : WX} {σ : L2.St} {C : Addr} {f : Str} {v : V} {H : Hp} (q : ∀ d H', H d = none → Same H H' → H' d = some (.xd [(f, v)]) → WUnl X W (.ref C) (some d) σ H') :
    [v].length ≤ 1000 ∧ ∀ a, H a = none → spExo C f (.ref a :: ([v] ++ [])) (upd H a (exo a C none))
      (fun u H2 => u = .non ∧ ∃ (d : Addr) (fs : List (Str × V)), H2 a = some (exo a C (some d)) ∧ H2 d = some (exd d fs) ∧ H d = none ∧ WUnl X W (.ref C) (some d) σ (upd (L2.del H2 a) d (.xd fs))) (fun _ _ _ => False) := raise1 (Q := fun cls d H' => WUnl X W cls d σ H') q
end RM

set_option Elab.async false
set_option linter.all false
set_option maxRecDepth 100000
set_option maxHeartbeats 2000000
namespace RM
open PySem PySem.Spec PyProof.Rows L2
/-! ### dicts of any keys and values: checked, Change(..) -/
def wordE : NestedKey → Bool
  | .text z => isWord z
  | _ => false
def valE : V → Bool
  | .int n => isValue n
  | _ => false
def rightE : GE → Bool := fun p => match p.2.1, p.2.2 with
  | .text z, .int n => isWord z && isValue n
  | _, _ => false
structure EntOk (K : PySem.W.Frag) (H : Hp) (p : GE) : Prop where
  key : KeyG K H p.1 p.2.1
  sz : ∀ z, p.2.1 = .text z → z.length ≤ sizeLine
  val : (∃ n, p.2.2 = .int n) ∨ ∃ d, Dp K H p.2.2 d ∧ noInt d = true ∧ noL d = true
def GOk (K : PySem.W.Frag) (H : Hp) (es : List GE) : Prop := (∀ p ∈ es, EntOk K H p) ∧ (es.map (·.2.1)).Nodup
theorem EntOk.keep {K : PySem.W.Frag} {H H' : Hp} {p : GE} (h : EntOk K H p) (e : TS K H H') : EntOk K H' p :=
  ⟨h.key.keep e, h.sz, h.val.imp_right fun ⟨d, h1, h2, h3⟩ => ⟨d, dp_ts e h1 h3, h2, h3⟩⟩
theorem GOk.keep {K : PySem.W.Frag} {H H' : Hp} {es : List GE} (h : GOk K H es) (e : TS K H H') : GOk K H' es := ⟨fun p hp => (h.1 p hp).keep e, h.2⟩
theorem GOk.okG {K : PySem.W.Frag} {H : Hp} {es : List GE} (h : GOk K H es) : OkG K H es := ⟨fun p hp => (h.1 p hp).key, h.2⟩
/-- the words and numbers of right entries -/
def mOf (es : List GE) : WM := es.filterMap fun p => match p.2.1, p.2.2 with
  | .text z, .int n => some (z, n)
  | _, _ => none
theorem mOf_right {K : PySem.W.Frag} {H : Hp} : ∀ {es : List GE}, (∀ p ∈ es, KeyG K H p.1 p.2.1) → es.all rightE = true → es = ofK (mK (mOf es)) ∧ ∀ q ∈ mOf es, isWord q.1 = true ∧ isValue q.2 = true
  | [], _, _ => ⟨rfl, fun _ h => by simp [mOf] at h⟩
  | p :: r, hk, h => by
    rw [List.all_cons, Bool.and_eq_true] at h
    obtain ⟨i1, i2⟩ := mOf_right (fun q hq => hk q (List.mem_cons_of_mem _ hq)) h.2
    have k0 := hk p List.mem_cons_self
    obtain ⟨i, k, v⟩ := p
    have h0 := h.1
    cases k with
    | text z =>
      cases v with
      | int n =>
        have ei : i = .str z := by cases (show KeyG K H i (.text z) from k0); rfl
        subst ei
        have h0 : (isWord z && isValue n) = true := h0
        rw [Bool.and_eq_true] at h0
        refine ⟨?_, fun q hq => ?_⟩
        · show (V.str z, NestedKey.text z, V.int n) :: r = (V.str z, NestedKey.text z, V.int n) :: ofK (mK (mOf r))
          rw [← i1]
        · rcases List.mem_cons.mp (show q ∈ (z, n) :: mOf r from hq) with e | e
          · rw [e]; exact h0
          · exact i2 q e
      | _ => exact absurd h0 Bool.false_ne_true
    | _ => exact absurd h0 Bool.false_ne_true
theorem mOf_ok {K : PySem.W.Frag} {H : Hp} {es : List GE} (h : GOk K H es) (r : es.all rightE = true) : es = ofK (mK (mOf es)) ∧ okM (mOf es) := by
  obtain ⟨h1, h2⟩ := mOf_right (fun p hp => (h.1 p hp).key) r
  refine ⟨h1, h2, ?_⟩
  have nd := h.2
  rw [h1, ofK_keys] at nd
  have nd2 : ((mK (mOf es)).map (·.1)).Nodup := List.Pairwise.of_map _ (fun a b ne e => ne (by rw [e])) nd
  unfold mK at nd2
  rw [List.map_map] at nd2
  have e : (mOf es).map ((fun x : Key × V => x.1) ∘ fun q : Str × Int => (Sum.inr q.1, V.int q.2)) = ((mOf es).map (·.1)).map Sum.inr := by rw [List.map_map]; rfl
  rw [e] at nd2
  exact List.Pairwise.of_map _ (fun a b ne e => ne (by rw [e])) nd2
theorem mK_nd {m : WM} (h : okM m) : ((mK m).map (·.1)).Nodup := by
  have e : (mK m).map (·.1) = (m.map (·.1)).map Sum.inr := by unfold mK; rw [List.map_map, List.map_map]; rfl
  rw [e]
  exact List.Pairwise.map _ (fun a b ne z => ne (Sum.inr.inj z)) h.2
theorem gOk_K {K : PySem.W.Frag} {H : Hp} {m : WM} (h : okM m) : GOk K H (ofK (mK m)) := by
  have o : OkG K H (ofK (mK m)) := okG_K (mK_nd h)
  refine ⟨fun p hp => ?_, o.nd⟩
  obtain ⟨kv, hkv, rfl⟩ := List.mem_map.mp hp
  obtain ⟨q, hq, rfl⟩ := List.mem_map.mp hkv
  refine ⟨keyG_K (.inr q.1), fun z e => ?_, .inl ⟨_, rfl⟩⟩
  have e : NestedKey.text q.1 = .text z := e
  cases e
  exact word_size (h.1 q hq).1
theorem mOf_K (m : WM) : mOf (ofK (mK m)) = m := by
  induction m with
  | nil => rfl
  | cons q r ih =>
    show (q.1, q.2) :: mOf (ofK (mK r)) = q :: r
    rw [ih]
theorem right_K {m : WM} (h : okM m) : (ofK (mK m)).all rightE = true := by
  rw [List.all_eq_true]
  intro p hp
  obtain ⟨kv, hkv, rfl⟩ := List.mem_map.mp hp
  obtain ⟨q, hq, rfl⟩ := List.mem_map.mp hkv
  obtain ⟨h1, h2⟩ := h.1 q hq
  show (isWord q.1 && isValue q.2) = true
  rw [h1, h2]
  rfl
theorem ofK_len (kvs : List (Key × V)) : (ofK kvs).length = kvs.length := List.length_map ..
theorem mOf_len {es : List GE} (e : es = ofK (mK (mOf es))) : (mOf es).length = es.length := by
  have := congrArg List.length e
  rw [ofK_len] at this
  rw [this]
  exact (List.length_map ..).symm
section
variable {P : Program} {w : World} {K : PySem.W.Frag} {mg : Str → Option Value} {base : Heap}
/-- right: least to four entries, each a word with a value -/
def goodG (es : List GE) (least : Nat) : Bool := decide (least ≤ es.length) && decide (es.length ≤ 4) && es.all rightE
def spChkX (K : PySem.W.Frag) (w : World) : Sp := fun vs H Q E => match vs with
  | [x, y] => ∃ (a : Addr) (es : List GE) (least : Nat), x = .ref a ∧ y = .int least ∧ H a = some (gO w a es) ∧ GOk K H es ∧ es.length ≤ 1000 ∧
    (goodG es least = true → ∀ p H' m2, Same H H' → H p = none → H' p = some (.dK (mK m2)) → SortM (mOf es) m2 → Q (.ref p) H') ∧
    (goodG es least = false → ∀ H', Same H H' → E (.ref (He.ga K "BadValues")) none H')
  | _ => False
/-- what is_word answers of a key -/
theorem word_g {H : Hp} {p : GE} {Q : VK} {E : XK} (h : EntOk K H p) (q : Q (.bl (wordE p.2.1)) H) : spIsWordG K [p.1] H Q E := by
  obtain ⟨i, k, v⟩ := p
  have hk : KeyG K H i k := h.key
  cases hk with
  | str z => exact .inl ⟨z, rfl, h.sz z rfl, q⟩
  | int i => exact .inr ⟨_, .int i, rfl, q⟩
  | non => exact .inr ⟨_, .non, rfl, q⟩
  | @one t z ht => exact .inr ⟨.tuple [.str z], .tup ht (.cons (.str z) .nil), rfl, q⟩
theorem value_g {H : Hp} {p : GE} {Q : VK} {E : XK} (h : EntOk K H p) (q : Q (.bl (valE p.2.2)) H) : spIsValueG K [p.2.2] H Q E := by
  obtain ⟨i, k, v⟩ := p
  rcases h.val with ⟨n, e⟩ | ⟨d, hd, hn, _⟩
  · have e : v = .int n := e
    subst e
    exact .inl ⟨n, rfl, q⟩
  · refine .inr ⟨d, hd, hn, ?_⟩
    have hd : Dp K H v d := hd
    cases hd with
    | int i => cases hn
    | _ => exact q
theorem right_eq (p : GE) : rightE p = (wordE p.2.1 && valE p.2.2) := by
  obtain ⟨i, k, v⟩ := p
  unfold rightE
  cases k <;> cases v <;> first | rfl | exact (Bool.and_false _).symm | exact (Bool.false_and _).symm
theorem cx_checked (T : Top w K mg) : Cal P w K mg base (L2.CX P w) 3 "checked" (spChkX K w) := by
  refine cal_X (f_checked T) (g_checked T) sc_checked (fun _ _ _ _ _ _ us hl => match us, hl with | [_, _], _ => rfl) (fun vs H Q E h => match vs, h with | [_, _], _ => rfl) (fun cdv A outer s H vs Q E hr h => ?_)
  match vs, h with
  | [x, y], h =>
  obtain ⟨a, es, least, rfl, rfl, ha, hg, few, q, qE⟩ := h
  refine ⟨_, (pss_cons (ps_if (PW.pt (pw_or (pt_not (pt_val (pcb (z_isinstance T) call_isiG boot_isinstance (pa_cons (pv 0) (pa_cons (pty (z_dict T) boot_dict) pa_nil))))) (pw_or1 (pt_not (pt_chain op_le op_le (pv 1) (pcb (z_len T) call_lenG boot_len (pa_cons (pv 0) pa_nil)) (pglI (i_MOST T)))))))
      (pss_one (ps_raise rfl (takes_of rfl rfl rfl rfl) (pmk_exc0 (xc_BadValues T) (g_BadValues T))))
      pss_nil)
    (pss_cons (ps_lock (ps_for (passes_of rfl) rfl (pi_keysG (pv 0)) (pg_name (i := 2) sc_checked.nd rfl (Or.inl rfl))
      (pss_one (ps_if (PW.pt (pw_or (pt_not (pt_val (pc (cg_is_word T) hr (pa_cons (pv 2) pa_nil)))) (pw_or1 (pt_not (pt_val (pc (cg_is_value T) hr (pa_cons (pe_gget (K := K) rfl (room8 hr) (pv 0) (pv 2) (fun _ _ => rfl)) pa_nil)))))))
      (pss_one (ps_raise rfl (takes_unl (takes_of rfl rfl rfl rfl)) (pmk_exc0 (xc_BadValues T) (g_BadValues T))))
      pss_nil))))
    (pss_one (ps_cv (ps_ret (pe_dc (own := [("key", 2)]) rfl sc_checked.nd (pi_list (pcb (z_sorted T) (call_sortedD rfl) boot_sorted (pa_cons (pv 0) pa_nil))) (blkOk_by (own := [("key", 2)]) (N := ["values", "least", "key"]) (sc := defScope s_checked) (by decide +kernel)) (fun _ _ _ _ _ => (pg_name (i := 2) sc_checked.nd rfl (Or.inl rfl) (Or.inr rfl))) (fun _ _ _ _ _ => pts_nil) (fun _ _ _ _ _ => (pv 2)) (fun _ _ _ _ _ => (pe_dget (hu_of hr) (pv 0) (pv 2) (fun _ _ => rfl))))))))), ?_⟩
  refine ⟨_, rfl, a, _, _, es, true, rfl, .ty _, .inl ha, kit_ty (by decide +kernel), _, rfl, iteF ?_⟩
  refine ⟨_, rfl, _, rfl, a, es, rfl, .inl ha, _, _, rfl, rfl, _, rfl, ?_⟩
  have bad : goodG es least = false → E (.ref (He.ga K "BadValues")) none H := fun z => qE z H (Same.refl _)
  by_cases c1 : least ≤ es.length
  case neg =>
    rw [decide_eq_false (by omega : ¬ ((least : Nat) : Int) ≤ ((es.length : Nat) : Int))]
    exact iteF ⟨_, rfl, ifT rfl (bad (by unfold goodG; rw [decide_eq_false c1]; rfl))⟩
  rw [decide_eq_true (by omega : ((least : Nat) : Int) ≤ ((es.length : Nat) : Int))]
  refine iteT ⟨_, _, rfl, rfl, _, rfl, ?_⟩
  by_cases c2 : es.length ≤ 4
  case neg =>
    refine ifT (by rw [decide_eq_false (show ¬ (((es.length : Nat) : Int) ≤ 4) by omega)]; rfl) (bad (by unfold goodG; rw [decide_eq_false c2, Bool.and_false]; rfl))
  refine ifF (by rw [decide_eq_true (show ((es.length : Nat) : Int) ≤ 4 by omega)]; rfl) ?_
  have gd : goodG es least = es.all rightE := by unfold goodG; rw [decide_eq_true c1, decide_eq_true c2]; rfl
  -- for key in values
  refine ⟨a, gO w a es, ha, trivial, fun od => ?_⟩
  have ts : TS K H (upd H a (.frz od (gO w a es))) := ts_upd _ ha trivial
  have hgL := hg.keep ts
  refine ⟨_, rfl, a, od, es, rfl, upd_same, for_it walk_g_keys (fun i σ H' => H' = upd H a (.frz od (gO w a es)) ∧ (es.take i).all rightE = true ∧ ∃ v, σ = [some (.ref a), some (.int least), v]) ⟨rfl, rfl, _, rfl⟩ (fun i σ H' _ h => by rw [h.1]; exact upd_same) ?_ ?_⟩
  · rintro i x σ H1 H2 hi ⟨rfl, hr, v, rfl⟩ ⟨rfl, p, hp, rfl⟩
    have hm := List.mem_of_getElem? hp
    have ep := hgL.1 p hm
    refine ⟨_, rfl, word_g ep ?_⟩
    have r0 := right_eq p
    have out : rightE p = false → goodG es least = false := fun z => by
      rw [gd]
      cases e : es.all rightE with
      | false => rfl
      | true => rw [List.all_eq_true.mp e p hm] at z; cases z
    have noL : ∀ o' u', H a ≠ some (.frz o' u') := fun o' u' z => by rw [ha] at z; cases z
    cases ew : (wordE p.2.1) with
    | false =>
      rw [ew, Bool.false_and] at r0
      exact ⟨_, rfl, iteT ⟨a, od, gO w a es, upd_same, noL, by rw [upd_back ha]; exact bad (out r0)⟩⟩
    | true =>
    rw [ew, Bool.true_and] at r0
    refine ⟨_, rfl, iteF ⟨_, rfl, _, rfl, a, es, p.2.1, p.2.2, p.1, i, rfl, .inr ⟨od, upd_same⟩, hgL.okG, ep.key, hp, value_g ep ?_⟩⟩
    cases ev : (valE p.2.2) with
    | false =>
      rw [ev] at r0
      exact ⟨_, rfl, ifT rfl ⟨a, od, gO w a es, upd_same, noL, by rw [upd_back ha]; exact bad (out r0)⟩⟩
    | true =>
    rw [ev] at r0
    refine ⟨_, rfl, ifF rfl ⟨rfl, ?_, _, rfl⟩⟩
    rw [List.take_add_one, List.all_append, hr, hp]
    show ([p].all rightE) = true
    rw [List.all_cons, r0]
    rfl
  · rintro σ H1 ⟨rfl, hr, v, rfl⟩
    rw [List.take_length] at hr
    refine ⟨upd_same, ?_⟩
    rw [upd_back ha]
    obtain ⟨e0, hok⟩ := mOf_ok hg hr
    have lm : (mOf es).length = es.length := mOf_len e0
    have ha1 : H a = some (gO w a (ofK (mK (mOf es)))) := by rw [← e0]; exact ha
    refine ⟨_, .toK ha1 (mK_nd hok), ?_⟩
    have hb : (upd H a (.dK (mK (mOf es)))) a = some (.dK (mK (mOf es))) := upd_same
    refine ⟨_, rfl, a, mK (mOf es), (mOf es).map (·.1), rfl, .of hb, by unfold mK; rw [List.map_map, List.map_map]; rfl, by rw [List.length_map]; omega, fun ys p hperm hsort hp => ?_⟩
    refine ⟨p, rfl, ⟨_, SqL.of upd_same⟩, fun D nD => ?_⟩
    have s1 := smNew1 hp (.lst (ys.map V.str))
    have hD0 : (upd H a (.dK (mK (mOf es)))) D = none := s1.free nD
    have ly : ys.length = (mOf es).length := by rw [hperm.length_eq, List.length_map]
    have nd : ys.Nodup := hperm.nodup_iff.mpr hok.2
    have Dp : D ≠ p := fun z => by rw [z, upd_same] at nD; cases nD
    refine dc_walk walk_list (fun i H' => Same (upd H a (.dK (mK (mOf es)))) H' ∧ H' p = some (.lst (ys.map V.str)) ∧ H' D = some (.dK (mK (pick (mOf es) (ys.take i))))) ⟨smNew s1 nD _, by rw [upd_ne (Ne.symm Dp)]; exact upd_same, upd_same⟩ (fun i H' _ h => SqL.of h.2.1) ?_ ?_
    · rintro i x H1 H2 hi ⟨e, hp1, hD⟩ ⟨rfl, hx⟩
      rw [List.getElem?_map] at hx
      obtain ⟨z, hz, rfl⟩ := Option.map_eq_some_iff.mp hx
      obtain ⟨q1, hq1, rfl⟩ := List.mem_map.mp (hperm.mem_iff.mp (List.mem_of_getElem? hz))
      have il := (List.getElem?_eq_some_iff.mp hz).1
      refine ⟨rfl, yesI ?_⟩
      refine ⟨_, rfl, _, rfl, _, rfl, a, .int q1.2, rfl, .inl ⟨mK (mOf es), .inr q1.1, .of (e _ _ hb), rfl, (valV_mK hok.2 q1 hq1).symm⟩, mK (pick (mOf es) (ys.take i)), .inr q1.1, rfl, hD, small1000 ?_, ?_⟩
      · show ((pick (mOf es) (ys.take i)).map _).length ≤ 1000
        rw [List.length_map]
        show ((ys.take i).map _).length ≤ 1000
        rw [List.length_map, List.length_take]
        omega
      · have hne : q1.1 ∉ (pick (mOf es) (ys.take i)).map (·.1) := by
          rw [pick_keys]
          intro hin
          obtain ⟨j, hj, ej⟩ := List.mem_iff_getElem.mp hin
          rw [List.getElem_take] at ej
          have jl : j < i := by rw [List.length_take] at hj; omega
          have := (List.getElem_inj (h₀ := by omega) (h₁ := il) nd).mp (ej.trans (List.getElem?_eq_some_iff.mp hz).2.symm)
          omega
        rw [put_new hne]
        refine ⟨smOut e hD0 _, by rw [upd_ne (Ne.symm Dp)]; exact hp1, ?_⟩
        rw [upd_same, List.take_add_one, hz]
        unfold pick
        rw [List.map_append]
        show some (HO.dK (mK (_ ++ [(q1.1, q1.2)]))) = some (HO.dK (mK (_ ++ [(q1.1, (((mOf es).find? fun q => decide (q.1 = q1.1)).map (·.2)).getD 0)])))
        rw [find_own hok.2 q1 hq1]
    · rintro H1 ⟨e, _, hD⟩
      rw [List.length_map, List.take_length] at hD
      have h1a : H1 a = some (.dK (mK (mOf es))) := e _ _ hb
      have Da : D ≠ a := fun z => by rw [z, hb] at hD0; cases hD0
      refine ⟨_, .toG h1a (by show ((mOf es).map _).length ≤ 1000; rw [List.length_map]; omega), ?_⟩
      refine q (by rw [gd]; exact hr) D _ (pick (mOf es) ys) (fun b u hu => ?_) (by rw [upd_ne Da] at hD0; exact hD0) (by rw [upd_ne Da]; exact hD) ⟨pick_perm hok.2 hperm, by rw [pick_keys]; exact hsort⟩
      by_cases z : b = a
      · rw [z, upd_same, ← hu, z, ha1]
        rfl
      · rw [upd_ne z]
        exact e _ _ (by rw [upd_ne z]; exact hu)
def ChgP (K : PySem.W.Frag) (H : Hp) (a : Addr) (m : WM) (p : Addr) : Prop := ∃ dx, H a = some (.ins (He.ga K "Change") dx [("given", .ref p)]) ∧ H p = some (.dK (mK m)) ∧ okM m ∧ sortedS (m.map (·.1)) = true ∧ m.length ≤ 4
theorem ChgP.at' {H : Hp} {a p : Addr} {m : WM} (h : ChgP K H a m p) : ChgAt K H a m := let ⟨dx, h1, h2, h3, h4, h5⟩ := h; ⟨⟨dx, p, h1, h2, h3, h4⟩, h5⟩
theorem ChgP.of {H : Hp} {a : Addr} {m : WM} (h : ChgAt K H a m) : ∃ p, ChgP K H a m p := let ⟨⟨dx, p, h1, h2, h3, h4⟩, h5⟩ := h; ⟨p, dx, h1, h2, h3, h4, h5⟩
theorem ChgP.keep {H H' : Hp} {a p : Addr} {m : WM} (h : ChgP K H a m p) (e : Same H H') : ChgP K H' a m p := let ⟨dx, h1, h2, h3⟩ := h; ⟨dx, e _ _ h1, e _ _ h2, h3⟩
theorem ChgP.upd {H : Hp} {a p b : Addr} {m : WM} {o : HO} (h : ChgP K H a m p) (ab : a ≠ b) (pb : p ≠ b) : ChgP K (upd H b o) a m p := let ⟨dx, h1, h2, h3⟩ := h; ⟨dx, by rw [upd_ne ab]; exact h1, by rw [upd_ne pb]; exact h2, h3⟩
/-- Change(..) of a dict of any keys -/
def spChgX (K : PySem.W.Frag) (w : World) : Sp := fun vs H Q E => match vs with
  | [x, v] => ∃ (a dx b : Addr) (es : List GE) (H0 : Hp), x = .ref a ∧ v = .ref b ∧ Cv w H H0 ∧ H0 a = some (.ins (He.ga K "Change") dx []) ∧ H0 b = some (gO w b es) ∧ GOk K H0 es ∧ es.length ≤ 1000 ∧
    (goodG es 0 = true → ∀ H' m2 p, Off a H0 H' → ChgP K H' a m2 p → H0 p = none → m2.Perm (mOf es) → Q .non H') ∧
    (goodG es 0 = false → ∀ H', Off a H0 H' → E (.ref (He.ga K "BadValues")) none H')
  | _ => False
theorem cx_Change_init (T : Top w K mg) : Mak P w K mg base (L2.CX P w) 4 "Change" (He.ga K "Change") (spChgX K w) := by
  refine mak_X (f_Change_init T) (mk_Change T) (g_Change T) sc_Change_init (fun _ _ _ _ _ _ us hl => match us, hl with | [_, _], _ => rfl) (fun vs H Q E h => match vs, h with | [_, _], _ => rfl) (fun cdv A outer s H vs Q E hr h => ?_)
  match vs, h with
  | [x, v], h =>
  obtain ⟨a, dx, b, es, H0, rfl, rfl, cv, ha, hb, hg, few, q, qE⟩ := h
  refine ⟨_, (pss_one (ps_cv (ps_fld (pv 0) (pcX (takes_of rfl rfl rfl rfl) (cx_checked T) hr (pa_cons (pv 1) (pa_cons pe_int pa_nil))) rfl))), ?_⟩
  refine ⟨H0, cv, _, rfl, b, es, 0, rfl, rfl, hb, hg, few, fun gd p H1 m2 e1 np hp st => ?_, fun gd H1 e1 => qE gd H1 fun c u _ hu => e1 _ _ hu⟩
  have ha1 := e1 _ _ ha
  have pa : p ≠ a := fun z => by rw [z, ha] at np; cases np
  refine ⟨_, rfl, a, _, dx, [], rfl, ha1, k_Change T, na_Change_given T, by decide, ?_⟩
  have g2 := gd
  unfold goodG at g2
  rw [Bool.and_eq_true, Bool.and_eq_true] at g2
  obtain ⟨e0, hok⟩ := mOf_ok hg g2.2
  have lm := mOf_len e0
  refine ⟨_, .refl, q gd _ m2 p (fun c u hc hu => by rw [upd_ne hc]; exact e1 _ _ hu) ⟨dx, upd_same, by rw [upd_ne pa]; exact hp, okM_perm hok st.1, st.2, ?_⟩ np st.1⟩
  rw [st.1.length_eq, lm]
  exact of_decide_eq_true g2.1.2
end
end RM

set_option Elab.async false
set_option linter.all false
set_option maxRecDepth 100000
set_option maxHeartbeats 2000000
/-! bool(dict), bool(x) of an own class with __bool__ -/
namespace RM
open PySem PySem.Spec PyProof.Rows L2
/-- bool(v) by its truth -/
theorem meets_boolT (P : Program) (w : World) (v : Value) : MeetsIn P w (Builtin.«bool.__new__» ⟨[.type "bool", v], []⟩) (fun A R s => wpAny (model P w) A.in1 (truthy v) (fun b s' => R (.ok (.ret (.bool b))) s') (fun e s' => R (.error e) s') s) :=
  .of_wp fun A R s h => by
    obtain ⟨hp, g, d, tk, os⟩ := s
    have f1 := F.conv_sub_bool
    unfold Builtin.«bool.__new__»
    repeat (any_goals (first | assumption | (with_reducible refine wpAny_mono h (fun b s' q => ?_) (fun _ _ e => e)) | wp_step))
    all_goals first | exact ⟨_, rfl, q⟩ | skip
theorem call_boolT {P : Program} {w : World} {A : Around} {E : Value → Shared → Prop} {s : Shared} {v : Value} {Q : Value → Shared → Prop} (h : wpAny (model P w) A.in1.in1 (truthy v) (fun b s' => Q (.bool b) s') E s) : wpAny (model P w) A (call (.type "bool") [v]) Q E s :=
  callType_newIn F.called_bool F.newNe_bool (F.typeCall_bool_1 v) (F.newCall_bool_1 v) (fun obj => F.args_object_init_2 obj v) F.entry_bool_new (meets_boolT P w v) (wpAny_mono h (fun b s' q => ⟨PySem.typeIs_bool s' b, q⟩) fun _ _ e => e)
section
variable {X : Cx} {CX : CXT} {k j : Nat} {C : Addr} {sp : Sp} {E : XK}
theorem call_boolD : CallR X (.type "bool") (fun xs H Q => ∃ (a : Addr) (kvs : List (Key × V)), xs = [.ref a] ∧ Rd H a (.dK kvs) ∧ Q (.bl (!kvs.isEmpty)) H) := by
  rintro pins s σ H xs us Q I r ⟨a, kvs, rfl, ha, q⟩
  obtain rfl := Vals.ref1 r
  exact call_boolT (d_truth I ha fun s' I' => ⟨.bl (!kvs.isEmpty), H, I', rfl, q⟩)
/-- a def called two levels in -/
theorem ask_in2 {f : Addr} {fd : FuncData} {ps : List Str} {pins : List (Addr × Obj)} {σ : L2.St} {H : Hp} {s : Shared} {vs : List V} {us : List Value} {Q : VK} (F : FnOk X.prog X.w X.K X.mg X.base CX k f fd ps sp) (B : Binds X.K fd ps []) (hr : Room (k + 2) X.A) (hx : Passes CX X E)
    (I : Inv X pins σ H s) (r : Vals vs us) (h : sp vs H Q E) : wpAny (model X.prog X.w) X.A.in1.in1 (call (.ref f) us) (EP X pins σ Q) X.xe s := by
  have len : us.length = ps.length := by rw [← r.length]; exact F.len _ _ _ _ h
  have given := B s us I.kIn (by rw [List.append_nil]; exact len)
  rw [List.append_nil] at given
  refine wpAny_call (codeAny_mono (F.run X.A.in1.in1 X.stack s H ⟨us, []⟩ us vs Q E hr.in1.in1 I.env0.in1.in1 given r h) fun out s1 z => ?_)
  match out, z with
  | .ok (.ret _), z => exact I.after z
  | .error e, z => exact hx pins σ H s e s1 I z
  | .ok .next, z => exact z.elim
  | .ok .brk, z => exact z.elim
  | .ok .cont, z => exact z.elim
theorem call_boolO (c : OwnC X.prog X.w X.K X.mg X.base CX k C "__bool__" sp) (hx : Passes CX X E) (hr : Room j X.A) (hk : k + 2 ≤ j := by omega) :
    CallR X (.type "bool") (fun xs H Q => ∃ a dx fs, xs = [.ref a] ∧ H a = some (.ins C dx fs) ∧ sp [.ref a] H (fun v H' => ∃ b, v = .bl b ∧ Q (.bl b) H') E) := by
  rintro pins s σ H xs us Q I r ⟨a, dx, fs, rfl, ha, h⟩
  obtain ⟨f, fd, ps, F, hs, hf, B, _⟩ := c
  obtain rfl := Vals.ref1 r
  obtain ⟨_, ia, _⟩ := ins_get I.hok ha
  obtain ⟨_, la, _⟩ := ia.look
  have KX : X.K.In s.heap := I.kIn
  refine call_boolT ?_
  unfold truthy
  refine wpAny_bind (PySem.W.special_fn KX la hs (beq_iff_eq.mp hf) (wpAny_mono (ask_in2 (vs := [.ref a]) F B (hr.mono hk) hx I (.cons rfl .nil) h) (fun r s1 z => ?_) fun _ _ e => e))
  obtain ⟨_, H1, I1, rz, b, rfl, q⟩ := z
  cases rz
  exact wpAny_pure ⟨.bl b, H1, I1, rfl, q⟩
end
end RM

set_option Elab.async false
set_option linter.all false
set_option maxRecDepth 100000
set_option maxHeartbeats 2000000
/-! dicts from words to numbers compared, equal or not -/
namespace RM
open PySem PySem.Spec PyProof.Rows L2
def sameW (m g : WM) : Bool := (m.length == g.length) && m.all fun q => decide (wGet g q.1 = some q.2)
theorem num_eq {A : Around} {s : Shared} {u v : Value} {a b : Int} (hu : A.units + 4 < cLine) (ru : RelV (.int a) u) (rv : RelV (.int b) v) : SeqAt.EqAt A s u v (decide (b = a)) := by
  obtain ⟨t, rfl⟩ := (show ∃ t, u = Value.int a t from ru)
  obtain ⟨t', rfl⟩ := (show ∃ t, v = Value.int b t from rv)
  have h := eqAt_key (.num a) (.num b) A s (.int a t) (.int b t') (.int a t) (.int b t') (by show A.units + _ < cLine; have := Nat.min_le_left (NestedKey.num a).depth (NestedKey.num b).depth; have : (NestedKey.num a).depth = 0 := rfl; omega)
  rw [← NestedKey.decide_eq] at h
  have e : decide (NestedKey.num a = NestedKey.num b) = decide (b = a) := by
    rw [Bool.eq_iff_iff, decide_eq_true_iff, decide_eq_true_iff]
    exact ⟨fun z => (NestedKey.num.inj z).symm, fun z => by rw [z]⟩
  rw [e] at h
  exact h
theorem hits_w {A : Around} {s : Shared} {g : WM} {vb : List (Key × Value)} (hu : A.units + 4 < cLine) (rb : KV (mK g) vb) : ∀ {m : WM} {va : List (Key × Value)}, KV (mK m) va → PySem.W.KeqHits A s vb va (m.all fun q => decide (wGet g q.1 = some q.2))
  | [], [], .nil => .nil
  | q :: r, (k, v) :: va, .cons h t => by
    obtain ⟨h1, h2⟩ := h
    have h1 : Sum.inr q.1 = k := h1
    subst h1
    have ro : RelO ((wGet g q.1).map V.int) (valueAt vb (Sum.inr q.1)) := by
      rw [← valV_get]
      exact rb.val _
    have ih := hits_w (s := s) (m := r) hu rb t
    rw [List.all_cons]
    cases e : wGet g q.1 with
    | none =>
      rw [e] at ro
      have hn : valueAt vb (Sum.inr q.1) = none := RelO.none_of ro
      rw [decide_eq_false (by simp), Bool.false_and]
      exact .miss hn
    | some n =>
      rw [e] at ro
      obtain ⟨y, hy, ry⟩ := RelO.some_of ro
      have := PySem.W.KeqHits.hit hy (num_eq (s := s) hu h2 ry) ih
      have e2 : decide (some n = some q.2) = decide (n = q.2) := by
        rw [Bool.eq_iff_iff, decide_eq_true_iff, decide_eq_true_iff]
        exact ⟨Option.some.inj, fun z => by rw [z]⟩
      rw [e2]
      exact this
section
variable {X : Cx}
def rEqW (neg : Bool) : R2 := fun x y H Q => ∃ a b m g, x = .ref a ∧ y = .ref b ∧ H a = some (.dK (mK m)) ∧ H b = some (.dK (mK g)) ∧ Q (.bl (if neg then !sameW m g else sameW m g)) H
theorem w_len {m : WM} {va : List (Key × Value)} (r : KV (mK m) va) : va.length = m.length := by
  rw [← r.length]
  exact List.length_map ..
theorem op_eqW (hu : X.A.units + 8 < cLine) : OpR X (compareOp .Eq) (rEqW false) := by
  intro pins s σ H x y v u Q I rx ry h
  obtain ⟨a, b, m, g, rfl, rfl, ea, eb, q⟩ := h
  obtain rfl : v = Value.ref a := rx
  obtain rfl : u = Value.ref b := ry
  obtain ⟨_, ya, va, ra, da⟩ := (show ObjOk X.prog X.w H s.heap a (.dK (mK m)) from I.hok a _ ea)
  obtain ⟨_, yb, vb, rb, db⟩ := (show ObjOk X.prog X.w H s.heap b (.dK (mK g)) from I.hok b _ eb)
  refine PySem.W.keq_eq (knd := mixKind X.prog X.w) ya yb da db (by omega) (fun _ => hits_w (by show X.A.units + 1 + 4 < cLine; omega) rb ra) (fin_bl I q ?_)
  rw [w_len ra, w_len rb]
  rfl
theorem op_neW (hu : X.A.units + 8 < cLine) : OpR X (compareOp .NotEq) (rEqW true) := by
  intro pins s σ H x y v u Q I rx ry h
  obtain ⟨a, b, m, g, rfl, rfl, ea, eb, q⟩ := h
  obtain rfl : v = Value.ref a := rx
  obtain rfl : u = Value.ref b := ry
  obtain ⟨_, ya, va, ra, da⟩ := (show ObjOk X.prog X.w H s.heap a (.dK (mK m)) from I.hok a _ ea)
  obtain ⟨_, yb, vb, rb, db⟩ := (show ObjOk X.prog X.w H s.heap b (.dK (mK g)) from I.hok b _ eb)
  refine PySem.W.keq_ne (knd := mixKind X.prog X.w) ya yb da db (by omega) (fun _ => hits_w (by show X.A.units + 1 + 4 < cLine; omega) rb ra) (fin_bl I q ?_)
  rw [w_len ra, w_len rb]
  rfl
end
/-- the same under any order -/
theorem sameW_perm {m m' g g' : WM} (pm : m'.Perm m) (pg : g'.Perm g) (ng : (wKeys g).Nodup) : sameW m' g' = sameW m g := by
  have eg : ∀ k, wGet g' k = wGet g k := fun k => wGet_perm ng pg k
  unfold sameW
  rw [pm.length_eq, pg.length_eq]
  congr 1
  rw [Bool.eq_iff_iff, List.all_eq_true, List.all_eq_true]
  constructor
  · intro h q hq
    rw [← eg]
    exact h q (pm.mem_iff.mpr hq)
  · intro h q hq
    rw [eg]
    exact h q (pm.mem_iff.mp hq)
theorem sameW_self {m g : WM} (pm : m.Perm g) (nm : (wKeys m).Nodup) : sameW m g = true := by
  have e : sameW m g = sameW g g := sameW_perm pm (List.Perm.refl _) (by unfold wKeys at nm ⊢; exact (pm.map _).nodup_iff.mp nm)
  rw [e]
  unfold sameW
  rw [beq_self_eq_true, Bool.true_and, List.all_eq_true]
  intro q hq
  have ng : (wKeys g).Nodup := by unfold wKeys at nm ⊢; exact (pm.map _).nodup_iff.mp nm
  exact decide_eq_true (wGet_mem ng hq)
end RM

set_option Elab.async false
set_option linter.all false
set_option maxRecDepth 100000
set_option maxHeartbeats 2000000
/-! a def that answers NotImplemented at once: `if not isinstance(other, C): return NotImplemented` -/
namespace RM
open PySem PySem.Spec PyProof.Rows L2
theorem boot_NotImplemented : bootBuiltins "NotImplemented" = some .notImplemented := by decide +kernel
/-- what stands behind such a call -/
abbrev NiQ (Q : Hp → Prop) (C : Value → Shared → Prop) : Result → Shared → Prop := fun r s' => r = .ok (.ret .notImplemented) ∧ C Value.none s'
structure FnNi (P : Program) (w : World) (K : PySem.W.Frag) (mg : Str → Option Value) (base : Heap) (k : Nat) (f : Addr) (fd : FuncData) (ps : List Str) (sp : List V → Hp → (Hp → Prop) → Prop) : Prop where
  len : ∀ vs H Q, sp vs H Q → vs.length = ps.length
  run : ∀ (A : Around) (outer : List Env) (s : Shared) (H : Hp) (args : Args) (us : List Value) (vs : List V) (Q : Hp → Prop), Room k A → Env0 P w K mg base A outer s H → BindsTo s fd args (ps.zip us) → Vals vs us → sp vs H Q →
    codeAny (model P w) A (.call (.ref f) args) (fun r s' => r = .ok (.ret .notImplemented) ∧ CE outer P w H s (fun _ H' => Q H') Value.none s') s
section
variable {X : Cx}
/-- the first row of such a def -/
theorem ni_row {c : Expr} {tc : TT} {rest : List Stmt} {p1 p2 p3 : Pos} (hc : PT X c tc) (hg : Gl X "NotImplemented") (hm : X.mg "NotImplemented" = none) {pins : List (Addr × Obj)} {s : Shared} {σ : L2.St} {H : Hp} {Q : Hp → Prop} (I : Inv X pins σ H s)
    (h : tc σ H fun b H1 => b = true ∧ Q H1) : wpAny (model X.prog X.w) X.A (execs (.If c [.Return (some (.Name "NotImplemented" p1)) p2] [] p3 :: rest) X.env) (fun fl s' => fl = .ret .notImplemented ∧ ∃ H', Inv X pins σ H' s' ∧ Q H') X.xe s := by
  refine wpAny_execs_cons (wpAny_If (thn (hc.run pins s σ H _ I h) fun d s1 ⟨H1, I1, e, q⟩ => ?_))
  subst e
  exact wpAny_execs_cons (wpAny_Return_some (ld_blt I1 hg hm boot_NotImplemented ⟨rfl, H1, I1, q⟩))
end
theorem fn_ni {P : Program} {w : World} {K : PySem.W.Frag} {mg : Str → Option Value} {base : Heap} {k : Nat} {f : Addr} {name qual : Str} {params : Arguments} {body : List Stmt} {scope : Scope} {N ps : List Str} {fd : FuncData} {sp : List V → Hp → (Hp → Prop) → Prop}
    (F : FunD K name qual params body scope [] [] f fd) (S : FnScope N ps scope) (len : ∀ vs H Q, sp vs H Q → vs.length = ps.length)
    (hbody : ∀ (cdv : Value) (A : Around) (outer : List Env) (s : Shared) (H : Hp) (vs : List V) (Q : Hp → Prop), Room k (A.deeper (envOfC qual scope s.heap.objs.size f cdv)) → sp vs H Q → ∀ s1, Inv (cxOf CX0 P w K mg base N qual scope f cdv A outer s H E0) [] (L2.start N vs) H s1 →
      wpAny (model P w) (cxOf CX0 P w K mg base N qual scope f cdv A outer s H E0).A (execs body (cxOf CX0 P w K mg base N qual scope f cdv A outer s H E0).env) (fun fl s' => fl = .ret .notImplemented ∧ ∃ H', Inv (cxOf CX0 P w K mg base N qual scope f cdv A outer s H E0) [] (L2.start N vs) H' s' ∧ Q H') (cxOf CX0 P w K mg base N qual scope f cdv A outer s H E0).xe s1) :
    FnNi P w K mg base (k + 1) f fd ps sp := by
  obtain ⟨oc, od, dV, kV, doc, pm, an, cdv, ct, osl, rfl, here, code, _, _⟩ := F.ex
  refine ⟨len, fun A outer s H args us vs Q hr e0 hb r hsp => ?_⟩
  have hl := len _ _ _ hsp
  have KX : K.In s.heap := e0.mod.kin.keeps (fun b o z => (e0.bs b o z).1)
  have free : s.heap.NoLimit := e0.mod.nolimit.keeps (fun b o z => (e0.bs b o z).1)
  have kinds : ∀ y ∈ ps.zip us, scope.names.lookup y.1 = some .local ∨ (scope.names.lookup y.1 = some .cell ∧ ((cellsFrom (s.heap.objs.size + 1) scope.names []).lookup y.1).isSome = true) := by
    rintro ⟨n, v⟩ hy
    exact (S.par n (List.of_mem_zip hy).1).imp id fun z => ⟨z, PySem.W.cellsFrom_some _ _ _ (Or.inl z)⟩
  apply codeAny_call_function hr.depth (KX _ _ here) rfl S.co S.gen rfl (PySem.W.codeRec_of KX code) (hb _ _ _ _ ?_)
  apply wpAny_newFunctionEnv_cells S.kind kinds
  intro env he s1 x
  subst he
  apply And.intro (free.keeps x.toInCall.keep)
  refine codeAny_func ?_
  have I : Inv (cxOf CX0 P w K mg base N qual scope f cdv A outer s H E0) [] (L2.start N vs) H s1 := inv_start S hr.hd e0 hl r x
  refine wpAny_mono (hbody cdv A outer s H vs Q (hr.deeper _) hsp s1 I) (fun fl s' hs => ?_) fun e s' hs => ?_
  · obtain ⟨rfl, H', J, q⟩ := hs
    exact ⟨rfl, V.non, H', J.os, J.bare, J.base, J.hok, rfl, q⟩
  · exact wpAny_mono hs (fun _ _ h => h.elim) fun _ _ h => h.elim
end RM

set_option Elab.async false
set_option linter.all false
set_option maxRecDepth 100000
set_option maxHeartbeats 2000000
/-! x + y of two own classes, x's __add__ answers NotImplemented, y's __radd__ does it -/
namespace RM
open PySem PySem.Spec PyProof.Rows L2
section
open PySem.W
variable {K : Frag} {C f : Addr}
theorem binop_refl {prog : Program} {w : World} {A : Around} {E : Value → Shared → Prop} {s : Shared} {x y L D fD g : Addr} {h₀ : Heap} {m : Str → Option Value} {ox : Obj} {od : Option Obj} {rC rD : Option Value} {Q : Value → Shared → Prop}
    (F : Fr h₀ L s.heap m) (X₀ : K.In h₀) (I : InstAt s.heap x ox C od) (hb : Looks (model prog w) s.heap (typeOf (.ref y)) (.ref D)) (hne : D ≠ C) (hc : selfFirst K C = true) (hd : selfFirst K D = true) (hs : findIn K (.ref C) (PySem.dunder "add") = some (some (.ref f)))
    (hf : isFn K (.ref f) = true) (hsD : findIn K (.ref D) (PySem.dunder "add") = some (some (.ref fD))) (hrC : findIn K (.ref C) (dunderR "add") = some rC) (hrD : findIn K (.ref D) (dunderR "add") = some rD) (rC' : rC = none ∨ ∃ g, rC = some (.ref g)) (rD' : rD = none ∨ ∃ g, rD = some (.ref g))
    (hg : findIn K (.ref D) (dunderR "add") = some (some (.ref g))) (hgf : isFn K (.ref g) = true)
    (sub : subIn K (.ref D) (.ref C) = some false) (h : wpAny (model prog w) A (call (.ref f) [.ref x, .ref y]) (fun v s1 => v = .notImplemented ∧ K.In s1.heap ∧ Looks (model prog w) s1.heap (typeOf (.ref x)) (.ref C) ∧ (∃ oy od2, InstAt s1.heap y oy D od2) ∧
      wpAny (model prog w) A (call (.ref g) [.ref y, .ref x]) (PySem.W.CmpBack Q) E s1) E s) : wpAny (model prog w) A (binaryOp .Add (.ref x) (.ref y)) Q E s := by
  have X := X₀.keeps F.keep
  obtain ⟨cd, rest, hcd, hm⟩ := self_first hc
  obtain ⟨dd, rest2, hdd, hm2⟩ := self_first hd
  unfold binaryOp
  apply wpAny_holding; apply wpAny_bind
  unfold binaryOp1
  apply wpAny_bind
  refine I.type.here (wpAny_bind (hb.here (wpAny_bind ?_)))
  refine (fills_K X hcd hm hs).here ?_
  have nb : (Value.ref C == Value.ref D) = false := by simpa using fun e => hne e.symm
  simp only [nb, Bool.false_eq_true, if_false]
  refine wpAny_bind ((fills_K X hdd hm2 hsD).here ?_)
  simp only [if_true, Bool.and_self]
  refine wpAny_bind ((looks_subIn X sub).here ?_)
  simp only [Bool.false_eq_true, if_false, Bool.not_false, Bool.and_self, if_true]
  refine wpAny_bind ((slot_def X hs hrC rC').here ?_)
  simp only [if_true]
  refine wpAny_bind ((slot_def X hsD hrD rD').here ?_)
  simp only [if_false, Bool.not_true, Bool.false_eq_true]
  refine wpAny_bind (m := tryMethod (.ref x) _ (.ref y)) ?_
  unfold tryMethod
  refine wpAny_bind (special_fn X I hs (beq_iff_eq.mp hf) (wpAny_mono h (fun v s1 hv => ?_) fun _ _ e => e))
  obtain ⟨rfl, X1, lx, ⟨oy, od2, Iy⟩, back⟩ := hv
  refine wpAny_pure ?_
  refine wpAny_bind (lx.here (wpAny_bind (Iy.type.here ?_)))
  simp only [nb, Bool.false_eq_true, if_false]
  refine wpAny_bind (wpAny_bind (special_fn X1 Iy hg (beq_iff_eq.mp hgf) (wpAny_mono back (fun v s2 hv => ?_) fun _ _ e => e)))
  cases v <;> first | exact hv.elim | exact wpAny_pure (wpAny_bind (wpAny_rule (wpAny_pure (wpAny_pure hv))))
end
/-- a def's own special method that answers NotImplemented -/
def OwnNi (P : Program) (w : World) (K : PySem.W.Frag) (mg : Str → Option Value) (base : Heap) (k : Nat) (C : Addr) (m : Str) (sp : List V → Hp → (Hp → Prop) → Prop) : Prop :=
  ∃ (f : Addr) (fd : FuncData) (ps : List Str), FnNi P w K mg base k f fd ps sp ∧ PySem.W.findIn K (.ref C) m = some (some (.ref f)) ∧ PySem.W.isFn K (.ref f) = true ∧ Binds K fd ps []
section
variable {X : Cx} {k j : Nat}
/-- a call of such a def -/
theorem ask_ni {f : Addr} {fd : FuncData} {ps : List Str} {sp : List V → Hp → (Hp → Prop) → Prop} {pins : List (Addr × Obj)} {σ : L2.St} {H : Hp} {s : Shared} {vs : List V} {us : List Value} {Q : Hp → Prop} (F : FnNi X.prog X.w X.K X.mg X.base k f fd ps sp) (B : Binds X.K fd ps []) (hr : Room k X.A)
    (I : Inv X pins σ H s) (r : Vals vs us) (h : sp vs H Q) : wpAny (model X.prog X.w) X.A (call (.ref f) us) (fun v s' => v = .notImplemented ∧ ∃ H', Inv X pins σ H' s' ∧ Q H') X.xe s := by
  have len : us.length = ps.length := by rw [← r.length]; exact F.len _ _ _ h
  have given := B s us I.kIn (by rw [List.append_nil]; exact len)
  rw [List.append_nil] at given
  refine wpAny_call (codeAny_mono (F.run X.A X.stack s H ⟨us, []⟩ us vs Q hr I.env0 given r h) fun out s1 z => ?_)
  obtain ⟨rfl, z⟩ := z
  obtain ⟨v, H', I', rv, q⟩ := I.after z
  exact ⟨rfl, H', I', q⟩
/-- x + y: x's __add__ answers NotImplemented, y's __radd__ is asked -/
def rAddR (C D : Addr) (spn : List V → Hp → (Hp → Prop) → Prop) (sp : Sp) (E : XK) : R2 := fun x y H Q => ∃ a b dx dy fs gs, x = .ref a ∧ y = .ref b ∧ H a = some (.ins C dx fs) ∧ H b = some (.ins D dy gs) ∧ spn [x, y] H (fun H' => H' = H) ∧ sp [y, x] H Q E
theorem op_addR {x y : Str} {spn : List V → Hp → (Hp → Prop) → Prop} {sp : Sp} {E : XK} (two : twoB X.K x y = true) (n : OwnNi X.prog X.w X.K X.mg X.base k (He.ga X.K x) "__add__" spn) (c : OwnX X.prog X.w X.K X.mg X.base k (He.ga X.K y) "__radd__" sp) (hx : Passes (L2.CX X.prog X.w) X E) (hr : Room j X.A) (hk : k ≤ j := by omega) :
    OpR X (binaryOp .Add) (rAddR (He.ga X.K x) (He.ga X.K y) spn sp E) := by
  rintro pins s σ H _ _ v u Q I rx ry ⟨a, b, dx, dy, fs, gs, rfl, rfl, ha, hb, hn, hsp⟩
  obtain ⟨f, fd, ps, F, hs, hf, B⟩ := n
  obtain ⟨g, gd, qs, G, hgs, hgf, Bg⟩ := c
  obtain ⟨t1, two⟩ := He.ba two
  obtain ⟨t2, two⟩ := He.ba two
  obtain ⟨t3, two⟩ := He.ba two
  obtain ⟨t4, two⟩ := He.ba two
  obtain ⟨t5, two⟩ := He.ba two
  obtain ⟨t6, two⟩ := He.ba two
  obtain ⟨t7, t8⟩ := He.ba two
  obtain ⟨rC, hrC, kC⟩ := radd_of t7
  obtain ⟨rD, hrD, kD⟩ := radd_of t8
  cases rx
  cases ry
  obtain ⟨_, ia, _⟩ := ins_get I.hok ha
  obtain ⟨_, ib, _⟩ := ins_get I.hok hb
  obtain ⟨_, la, _⟩ := ia.look
  obtain ⟨_, lb, _⟩ := ib.look
  refine binop_refl I.fr.choose_spec I.ok.mod.kin la lb.type (of_decide_eq_true t3) t1 t2 hs hf (spcB_ok t5).1 hrC hrD kC kD hgs hgf (of_decide_eq_true t6) ?_
  refine thn (ask_ni (vs := [.ref a, .ref b]) F B (hr.mono hk) I (.cons rfl (.cons rfl .nil)) hn) fun r s1 z => ?_
  obtain ⟨rfl, H', I1, rfl⟩ := z
  obtain ⟨_, ia1, _⟩ := ins_get I1.hok ha
  obtain ⟨_, ib1, _⟩ := ins_get I1.hok hb
  obtain ⟨_, la1, _⟩ := ia1.look
  obtain ⟨_, lb1, _⟩ := ib1.look
  refine ⟨rfl, I1.kIn, la1.type, ⟨_, _, lb1⟩, ?_⟩
  refine thn (run_fn (vs := [.ref b, .ref a]) (dvs := []) (ds := []) G (hr.mono hk) Bg .nil hx I1 (.cons rfl (.cons rfl .nil)) hsp) fun r s2 z => ?_
  obtain ⟨z, H2, I2, rz, q⟩ := z
  have some := not_ni rz
  cases r <;> first | exact absurd rfl some | exact ⟨z, H2, I2, rz, q⟩
end
end RM

set_option Elab.async false
set_option linter.all false
set_option maxRecDepth 100000
set_option maxHeartbeats 2000000
/-! x[k] = v, x of an own class with __setitem__ -/
namespace RM
open PySem PySem.Spec PyProof.Rows L2
section
variable {X : Cx} {CX : CXT} {k j : Nat} {C : Addr} {sp : Sp} {E : XK}
def rSetO (C : Addr) (sp : Sp) (E : XK) : V → V → V → Hp → (Hp → Prop) → Prop := fun o i v H Q => ∃ a dx fs, o = .ref a ∧ H a = some (.ins C dx fs) ∧ sp [o, i, v] H (fun _ H' => Q H') E
theorem set_own (hq : PySem.W.noSeq X.K C = true) (c : OwnC X.prog X.w X.K X.mg X.base CX k C "__setitem__" sp) (hx : Passes CX X E) (hr : Room j X.A) (hk : k ≤ j := by omega) : PSet X (rSetO C sp E) := by
  rintro pins s σ H _ i v ov iv u Q I ro ri rv ⟨a, dx, fs, rfl, ha, h⟩
  obtain ⟨f, fd, ps, F, hs, hf, B, hn⟩ := c
  cases ro
  obtain ⟨_, ia, _⟩ := ins_get I.hok ha
  obtain ⟨_, la, _⟩ := ia.look
  have XK := I.kIn
  unfold setItem sequenceKey
  refine wpAny_holding (wpAny_bind (wpAny_bind (la.type.here ?_)))
  refine wpAny_bind ((PySem.W.anyM_none XK hq).here ?_)
  rw [if_pos (show (!false) = true from rfl)]
  refine wpAny_pure (wpAny_bind (PySem.W.special_fn XK la hs (beq_iff_eq.mp hf) (thn (run_fn (vs := [.ref a, i, v]) (dvs := []) (ds := []) F (hr.mono hk) B .nil hx I (.cons rfl (.cons ri (.cons rv .nil))) h) fun r s1 z => ?_)))
  obtain ⟨z, H1, I1, rz, q⟩ := z
  exact wpAny_pure ⟨H1, I1, q⟩
end
end RM

set_option Elab.async false
set_option linter.all false
set_option maxRecDepth 100000
set_option maxHeartbeats 2000000
/-! own special methods within a try: what is let out is told at the slots -/
namespace RM
open PySem PySem.Spec PyProof.Rows L2
section
variable {X : Cx} {CX : CXT} {W : WX} {k j : Nat} {C : Addr} {sp : Sp} {E : XK} {a b o i : Expr} {ta tb to ti te : TE} {pos : Pos}
/-- an operation at the slots σ -/
def OpAt (X : Cx) (σ : L2.St) (f : Value → Value → Sem Value) (r : R2) : Prop := ∀ (pins : List (Addr × Obj)) (s : Shared) (H : Hp) (x y : V) (v u : Value) (Q : VK), Inv X pins σ H s → RelV x v → RelV y u → r x y H Q →
    wpAny (model X.prog X.w) X.A (f v u) (fun z s1 => EP X pins σ Q z s1) X.xe s
def tOpS (r : L2.St → R2) (ta tb : TE) : TE := fun σ H Q => ta σ H fun x H1 => tb σ H1 fun y H2 => r σ x y H2 Q
theorem pe_opS {op : Operator} {r : L2.St → R2} (ho : ∀ σ, OpAt X σ (binaryOp op) (r σ)) (ha : PE X a ta) (hb : PE X b tb) : PE X (.BinOp a op b pos) (tOpS r ta tb) := by
  refine ⟨fun pins s σ H Q I h => ?_⟩
  exact wpAny_BinOp (binT ha hb I h fun v u s2 x y H2 I2 rx ry q => ho σ pins s2 H2 x y v u Q I2 rx ry q)
theorem op_addGS {x y : Str} (tk : Takes X W) (two : twoB X.K x y = true) (c : OwnX X.prog X.w X.K X.mg X.base k (He.ga X.K x) "__add__" sp) (hr : Room j X.A) (σ : L2.St) (hk : k ≤ j := by omega) : OpAt X σ (binaryOp .Add) (rAddX (He.ga X.K x) (He.ga X.K y) sp (WE W σ)) := by
  rintro pins s H _ _ v u Q I rx ry ⟨a, b, dx, dy, fs, gs, rfl, rfl, ha, hb, hsp⟩
  obtain ⟨f, fd, ps, F, hs, hf, B⟩ := c
  obtain ⟨t1, two⟩ := He.ba two
  obtain ⟨t2, two⟩ := He.ba two
  obtain ⟨t3, two⟩ := He.ba two
  obtain ⟨t4, two⟩ := He.ba two
  obtain ⟨t5, two⟩ := He.ba two
  obtain ⟨t6, two⟩ := He.ba two
  obtain ⟨t7, t8⟩ := He.ba two
  obtain ⟨rC, hrC, kC⟩ := radd_of t7
  obtain ⟨rD, hrD, kD⟩ := radd_of t8
  cases rx
  cases ry
  obtain ⟨_, ia, _⟩ := ins_get I.hok ha
  obtain ⟨_, ib, _⟩ := ins_get I.hok hb
  obtain ⟨_, la, _⟩ := ia.look
  obtain ⟨_, lb, _⟩ := ib.look
  refine binop_two I.fr.choose_spec I.ok.mod.kin la lb.type (of_decide_eq_true t3) t1 t2 hs hf (spcB_ok t5).1 hrC hrD kC kD (of_decide_eq_true t6) ?_
  refine thn (run_fnS (vs := [.ref a, .ref b]) F (hr.mono hk) B (passAt tk σ) I (.cons rfl (.cons rfl .nil)) hsp) fun r s1 z => ?_
  obtain ⟨z, H1, I1, rz, q⟩ := z
  have some := not_ni rz
  cases r <;> first | exact absurd rfl some | exact ⟨z, H1, I1, rz, q⟩
theorem op_addRS {k2 : Nat} {x y : Str} {spn : List V → Hp → (Hp → Prop) → Prop} (tk : Takes X W) (two : twoB X.K x y = true) (n : OwnNi X.prog X.w X.K X.mg X.base k2 (He.ga X.K x) "__add__" spn) (c : OwnX X.prog X.w X.K X.mg X.base k (He.ga X.K y) "__radd__" sp) (hr : Room j X.A) (σ : L2.St) (hk : k ≤ j := by omega) (hk2 : k2 ≤ j := by omega) :
    OpAt X σ (binaryOp .Add) (rAddR (He.ga X.K x) (He.ga X.K y) spn sp (WE W σ)) := by
  rintro pins s H _ _ v u Q I rx ry ⟨a, b, dx, dy, fs, gs, rfl, rfl, ha, hb, hn, hsp⟩
  obtain ⟨f, fd, ps, F, hs, hf, B⟩ := n
  obtain ⟨g, gd, qs, G, hgs, hgf, Bg⟩ := c
  obtain ⟨t1, two⟩ := He.ba two
  obtain ⟨t2, two⟩ := He.ba two
  obtain ⟨t3, two⟩ := He.ba two
  obtain ⟨t4, two⟩ := He.ba two
  obtain ⟨t5, two⟩ := He.ba two
  obtain ⟨t6, two⟩ := He.ba two
  obtain ⟨t7, t8⟩ := He.ba two
  obtain ⟨rC, hrC, kC⟩ := radd_of t7
  obtain ⟨rD, hrD, kD⟩ := radd_of t8
  cases rx
  cases ry
  obtain ⟨_, ia, _⟩ := ins_get I.hok ha
  obtain ⟨_, ib, _⟩ := ins_get I.hok hb
  obtain ⟨_, la, _⟩ := ia.look
  obtain ⟨_, lb, _⟩ := ib.look
  refine binop_refl I.fr.choose_spec I.ok.mod.kin la lb.type (of_decide_eq_true t3) t1 t2 hs hf (spcB_ok t5).1 hrC hrD kC kD hgs hgf (of_decide_eq_true t6) ?_
  refine thn (ask_ni (vs := [.ref a, .ref b]) F B (hr.mono hk2) I (.cons rfl (.cons rfl .nil)) hn) fun r s1 z => ?_
  obtain ⟨rfl, H', I1, rfl⟩ := z
  obtain ⟨_, ia1, _⟩ := ins_get I1.hok ha
  obtain ⟨_, ib1, _⟩ := ins_get I1.hok hb
  obtain ⟨_, la1, _⟩ := ia1.look
  obtain ⟨_, lb1, _⟩ := ib1.look
  refine ⟨rfl, I1.kIn, la1.type, ⟨_, _, lb1⟩, ?_⟩
  refine thn (run_fnS (vs := [.ref b, .ref a]) G (hr.mono hk) Bg (passAt tk σ) I1 (.cons rfl (.cons rfl .nil)) hsp) fun r s2 z => ?_
  obtain ⟨z, H2, I2, rz, q⟩ := z
  have some := not_ni rz
  cases r <;> first | exact absurd rfl some | exact ⟨z, H2, I2, rz, q⟩
/-- a def called one level in -/
theorem ask_in1S {f : Addr} {fd : FuncData} {ps : List Str} {pins : List (Addr × Obj)} {σ : L2.St} {H : Hp} {s : Shared} {vs : List V} {us : List Value} {Q : VK} (F : FnOk X.prog X.w X.K X.mg X.base CX k f fd ps sp) (B : Binds X.K fd ps []) (hr : Room (k + 1) X.A) (hx : PassesAt CX X σ E)
    (I : Inv X pins σ H s) (r : Vals vs us) (h : sp vs H Q E) : wpAny (model X.prog X.w) X.A.in1 (call (.ref f) us) (EP X pins σ Q) X.xe s := by
  have len : us.length = ps.length := by rw [← r.length]; exact F.len _ _ _ _ h
  have given := B s us I.kIn (by rw [List.append_nil]; exact len)
  rw [List.append_nil] at given
  refine wpAny_call (codeAny_mono (F.run X.A.in1 X.stack s H ⟨us, []⟩ us vs Q E hr.in1 I.env0.in1 given r h) fun out s1 z => ?_)
  match out, z with
  | .ok (.ret _), z => exact I.after z
  | .error e, z => exact hx pins H s e s1 I z
  | .ok .next, z => exact z.elim
  | .ok .brk, z => exact z.elim
  | .ok .cont, z => exact z.elim
/-- a[b] -/
def tGetS (C : Addr) (sp : Sp) (E : L2.St → XK) (ta tb : TE) : TE := fun σ H Q => ta σ H fun x H1 => tb σ H1 fun y H2 => ∃ a dx fs, x = .ref a ∧ H2 a = some (.ins C dx fs) ∧ sp [x, y] H2 Q (E σ)
theorem pe_getS (tk : Takes X W) (c : OwnC X.prog X.w X.K X.mg X.base (L2.CX X.prog X.w) k C "__getitem__" sp) (hr : Room j X.A) (ha : PE X a ta) (hb : PE X b tb) (hk : k + 1 ≤ j := by omega)
    (hsl : ∀ v u, subscripted b true v u = runValue (.builtin "lifetime.subscript" ⟨[v, u], []⟩) := by intro _ _; rfl) : PE X (.Subscript a b pos) (tGetS C sp (WE W) ta tb) := by
  obtain ⟨f, fd, ps, F, hs, hf, B, hn⟩ := c
  refine ⟨fun pins s σ H Q I h => ?_⟩
  refine Subscript_ (thn (ha.run pins s σ H _ I h) fun v s1 ⟨x, H1, I1, rx, h1⟩ => thn (hb.run pins s1 σ H1 _ I1 h1) fun u s2 ⟨y, H2, I2, ry, h2⟩ => ?_)
  obtain ⟨p, dx, fs, rfl, hp, h3⟩ := h2
  cases rx
  obtain ⟨_, ip, _⟩ := ins_get I2.hok hp
  obtain ⟨_, lp, _⟩ := ip.look
  exact PySem.W.sub_K I2.fr.choose_spec I2.ok.mod.kin lp hs hn hf (ask_in1S (vs := [.ref p, y]) F B (hr.mono hk) (passAt tk σ) I2 (.cons rfl (.cons ry .nil)) h3) (hsl _ _)
/-- o[i] = .. -/
def gSubS (C : Addr) (sp : Sp) (E : L2.St → XK) (to ti : TE) : TG := fun v σ H Q => to σ H fun o H1 => ti σ H1 fun i H2 => ∃ a dx fs, o = .ref a ∧ H2 a = some (.ins C dx fs) ∧ sp [o, i, v] H2 (fun _ H' => Q σ H') (E σ)
theorem pg_subS (tk : Takes X W) (ho : PE X o to) (hi : PE X i ti) (hq : PySem.W.noSeq X.K C = true) (c : OwnC X.prog X.w X.K X.mg X.base (L2.CX X.prog X.w) k C "__setitem__" sp) (hr : Room j X.A) (hk : k ≤ j := by omega)
    (steps : ∀ z, assign (.Subscript o i pos) X.env z = (do
      let ho ← holding [z] (eval o X.env); let hk ← holding [z, ho] (eval i X.env)
      standAt pos
      holding [z, ho, hk] (setItem ho hk z); release [z, ho, hk] []) := by intro _; rfl) : PG X (.Subscript o i pos) (gSubS C sp (WE W) to ti) := by
  constructor
  intro pins s σ H v u Q I r h
  rw [steps]
  refine wpAny_bind (wpAny_holding (thn (ho.run pins s σ H _ I h) ?_))
  rintro ow s1 ⟨x, H1, I1, r1, q1⟩
  refine wpAny_bind (wpAny_holding (thn (hi.run pins s1 σ H1 _ I1 q1) ?_))
  rintro iv s2 ⟨y, H2, I2, r2, ⟨p, dx, fs, rfl, hp, h3⟩⟩
  obtain ⟨f, fd, ps, F, hs, hf, B, hn⟩ := c
  cases r1
  obtain ⟨_, ia, _⟩ := ins_get I2.hok hp
  obtain ⟨_, la, _⟩ := ia.look
  have XK := I2.kIn
  have one : wpAny (model X.prog X.w) X.A (setItem (.ref p) iv u) (fun _ s' => ∃ H', Inv X pins σ H' s' ∧ Q σ H') X.xe s2 := by
    unfold setItem sequenceKey
    refine wpAny_holding (wpAny_bind (wpAny_bind (la.type.here ?_)))
    refine wpAny_bind ((PySem.W.anyM_none XK hq).here ?_)
    rw [if_pos (by rfl : (!false) = true)]
    refine wpAny_pure (wpAny_bind (PySem.W.special_fn XK la hs (beq_iff_eq.mp hf) (thn (run_fnS (vs := [.ref p, y, v]) F (hr.mono hk) B (passAt tk σ) I2 (.cons rfl (.cons r2 (.cons r .nil))) h3) fun w s3 z => ?_)))
    obtain ⟨z, H3, I3, rz, q⟩ := z
    exact wpAny_pure ⟨H3, I3, q⟩
  refine wpAny_bind (wpAny_standAt (wpAny_bind (wpAny_holding (thn one ?_))))
  rintro _ s3 ⟨HR, IR, qR⟩
  exact wpAny_release ⟨σ, HR, IR, qR⟩
/-- name += e, the name's value of an own class -/
def tAugO (i : Nat) (te : TE) (C : Addr) (sp : Sp) (E : L2.St → XK) : L2.TS := fun D σ H => ∃ x, σ[i]? = some (some x) ∧ te σ H fun y H1 => ∃ a dx fs, x = .ref a ∧ H1 a = some (.ins C dx fs) ∧ sp [x, y] H1 (fun z H2 => D.nx (σ.set i (some z)) H2) (E σ)
theorem ps_augO {i : Nat} {x : Str} {e : Expr} {te : TE} {pos' : Pos} (tk : Takes X W) (hN : X.N.Nodup) (hi : X.N[i]? = some x) (hx : Loc X.env.scope x) (he : PE X e te) (c : OwnC X.prog X.w X.K X.mg X.base (L2.CX X.prog X.w) k C "__iadd__" sp) (sf : PySem.W.selfFirst X.K C = true) (hr : Room j X.A) (hk : k ≤ j := by omega)
    (hf : X.fn x = true ∨ X.env.scope.names.lookup x = some .local := by first | exact .inl rfl | exact .inr rfl | assumption) : PS X (.AugAssign (.Name x pos') .Add e pos) (tAugO i te C sp (WE W)) := by
  refine ⟨fun pins s σ H D I h => ?_⟩
  obtain ⟨v, e1, h⟩ := h
  obtain ⟨m, hn, hl2⟩ := I.loc
  have vis : Vis X.env.scope x := hx.elim Or.inl fun k => Or.inr (Or.inl k)
  obtain ⟨u, r, l⟩ := hl2 i x v hi e1 vis
  apply wpAny_AugAssign_Name
  have go : wpAny (model X.prog X.w) X.A (eval e X.env) (fun w s₂ => wpAny (model X.prog X.w) X.A (inplaceOp .Add u w) (fun r s₃ => wpAny (model X.prog X.w) X.A (storeName X.env x r) (fun _ => SP X pins D .next) X.xe s₃) X.xe s₂) X.xe s := by
    refine thn (he.run pins s σ H _ I h) ?_
    rintro w s1 ⟨y, H1, I1, r1, ⟨p, dx, fs, rfl, hp, h3⟩⟩
    obtain ⟨f, fd, ps, F, hs, hfn, B, _⟩ := c
    cases r
    obtain ⟨_, ia, _⟩ := ins_get I1.hok hp
    obtain ⟨_, la, _⟩ := ia.look
    refine PySem.W.ksp_inplace I1.fr.choose_spec I1.ok.mod.kin la sf hs hfn (thn (run_fnS (vs := [.ref p, y]) F (hr.mono hk) B (passAt tk σ) I1 (.cons rfl (.cons r1 .nil)) h3) fun w2 s2 z => ?_)
    obtain ⟨z, H2, I2, rz, q⟩ := z
    have nn := not_ni rz
    cases w2 <;> first | exact absurd rfl nn | exact store_ok I2 hN hi hx rz (fun s3 I3 => ⟨_, H2, I3, q⟩) hf
  obtain ⟨lk, at_⟩ | ⟨hk, _, cl, at_⟩ := l
  · exact wpAny_loadName_local I.ok.kind lk hn at_ go
  · rcases hk with hk | hk
    · exact wpAny_loadName_cell I.ok.kind hk cl at_ go
    · rcases hx with k | k
      · have z : X.env.scope.names.lookup x = some .free := hk
        rw [k] at z; cases z
      · have z : X.env.scope.names.lookup x = some .free := hk
        rw [k] at z; cases z
end
end RM

set_option Elab.async false
set_option linter.all false
set_option maxRecDepth 100000
set_option maxHeartbeats 2000000
/-! x + y of one own class within a try -/
namespace RM
open PySem PySem.Spec PyProof.Rows L2
theorem op_addSS {X : Cx} {W : WX} {k j : Nat} {C : Addr} {sp : Sp} (tk : Takes X W) (sf : PySem.W.selfFirst X.K C = true) (c : OwnX X.prog X.w X.K X.mg X.base k C "__add__" sp) (hr : Room j X.A) (σ : L2.St) (hk : k ≤ j := by omega) : OpAt X σ (binaryOp .Add) (rAddS C sp (WE W σ)) := by
  rintro pins s H _ _ v u Q I rx ry ⟨a, b, dx, dy, fs, gs, rfl, rfl, ha, hb, hsp⟩
  obtain ⟨f, fd, ps, F, hs, hf, B⟩ := c
  cases rx
  cases ry
  obtain ⟨_, ia, _⟩ := ins_get I.hok ha
  obtain ⟨_, ib, _⟩ := ins_get I.hok hb
  obtain ⟨_, la, _⟩ := ia.look
  obtain ⟨_, lb, _⟩ := ib.look
  refine PySem.W.binop_K I.fr.choose_spec I.ok.mod.kin la lb.type sf hs hf (thn (run_fnS (vs := [.ref a, .ref b]) F (hr.mono hk) B (passAt tk σ) I (.cons rfl (.cons rfl .nil)) hsp) fun r s1 ⟨z, H1, I1, rz, q⟩ => ?_)
  have some := not_ni rz
  cases r <;> first | exact absurd rfl some | exact ⟨z, H1, I1, rz, q⟩
end RM

set_option Elab.async false
set_option linter.all false
set_option maxRecDepth 100000
set_option maxHeartbeats 2000000
/-! tuple(a dict), {**a, **b} -/
namespace RM
open PySem PySem.Spec PyProof.Rows L2
section
variable {X : Cx}
/-- tuple(d): its keys -/
theorem call_tupleD (hcalm : X.calm = true) : CallR X (.type "tuple") (fun xs H Q => ∃ (a : Addr) (kvs : List (Key × V)), xs = [.ref a] ∧ Rd H a (.dK kvs) ∧ ∀ p, H p = none → Q (.ref p) (upd H p (.tup (kvs.map fun kv => kV kv.1)))) := by
  rintro pins s σ H xs us Q I r ⟨a, kvs, rfl, hd, q⟩
  obtain ⟨u, rfl, rx⟩ := vals1 r
  cases rx
  obtain ⟨z, lo, vs, rel, dd⟩ := dk_rd I.hok hd
  obtain ⟨ep, hat⟩ := dd.dictAt
  have lv : kvs.length = vs.length := rel.length
  have ks : (kvs.map fun kv => kV kv.1) = vs.map fun p => kV p.1 := by
    have := congrArg (List.map kV) rel.keys
    rw [List.map_map, List.map_map] at this
    exact this
  refine callType_codes (Q₁ := fun obj s₁ => s₁.TypeIs obj "tuple" ∧ EP X pins σ Q obj s₁) PySem.F.called_tuple (PySem.F.typeCall_tuple_1 _) PySem.F.entry_object_init ?_ fun obj s₁ h₁ =>
    ⟨h₁.1, PySem.F.args_object_init_2 obj _, object_init_meets PySem.F.called_tuple.init.lookup PySem.F.called_tuple.made (by decide) X.prog X.w X.A.in1 _ s₁ ⟨h₁.1, rfl, h₁.2⟩⟩
  refine codeAny_of_tree ?_
  show wpAny _ X.A.in1.in1 (do checkBuiltinCall "tuple.__new__" ⟨[.type "tuple", .ref a], []⟩; again (.builtin "tuple.__new__" ⟨[.type "tuple", .ref a], []⟩)) _ _ s
  refine wpAny_bind (wpAny_of_eq (PySem.F.newCall_tuple_1 _) (wpAny_pure ⟨plainId_quiet PySem.F.plain_tuple_new _, codeAny_builtin PySem.F.entry_tuple_new ?_⟩))
  rw [Around.under_plainId PySem.F.plain_tuple_new _]
  have c1 := sub_tuple_self
  have c2 := init_tuple_lookup
  have c3 := madeHere_tuple
  have ty : s.TypeIs (.ref a) "dict" := dd.typeIs
  have K := PySem.W.kdl_dict (prog := X.prog) (w := X.w) (knd := mixKind X.prog X.w) (kvs := vs) (ep := ep) lo
  have sz0 : vs.length ≤ sizeLine := lv ▸ z
  wp_walk using wpAny_typeOf ty, PySem.W.kdu_collect K (show X.A.in1.in1.handled = none from I.ok.hd hcalm) hat sz0
  intro h' tk acc hk hacc
  show wpAny _ _ (Builtin.Tuple.tupleExact acc.toList.toArray >>= fun v => ret v) _ _ _
  unfold Builtin.Tuple.tupleExact
  have sz : acc.toList.toArray.size ≤ sizeLine := by
    simp only [Array.toArray_toList]
    rw [hacc.1, ← lv]
    exact z
  refine wpAny_bind (wpAny_newObj_type ?_ sz)
  refine wpAny_pure ⟨⟨_, Heap.get?_push_size _ rfl, rfl⟩, ?_⟩
  have hv : Vals (kvs.map fun kv => kV kv.1) acc.toList := by
    rw [ks]
    exact keys_at (by rw [Array.length_toList]; exact hacc.1) fun j v e => hacc.2 j v (by rw [← Array.getElem?_toList]; exact e)
  have I1 : Inv X pins σ H { s with heap := h', toks := tk } := I.kept hk
  exact ⟨.ref h'.objs.size, _, I1.laid (t' := tk) (fun b o e => Heap.get?_push_of_some _ e) (Nat.le_refl _) (show ObjOk X.prog X.w _ _ _ (.tup (kvs.map fun kv => kV kv.1)) from ⟨by rw [List.length_map]; exact z, acc.toList, hv, IsTup.new _ _⟩), rfl, q _ (I1.hok.fresh (Nat.le_refl _))⟩
end
/-! ### {**a, **b} -/
section
variable {prog : Program} {w : World} {κ : Type} [DecidableEq κ] {knd : KeyKind prog w κ} {A : Around} {E : Value → Shared → Prop} {s : Shared} {d a : Addr} {kvs more : List (κ × Value)}
/-- one entry is put -/
theorem put_pair {k : κ} {key v : Value} {Q : Unit → Shared → Prop} (hkey : knd.is k key = true) (hm : s.heap.DictOf knd d kvs) (sz : kvs.length ≤ sizeLine)
    (then_ : ∀ h', h'.DictOf knd d (stored kvs k v) → Heap.SameBut d s.heap h' → Q () { s with heap := h' }) : wpAny (model prog w) A (dictPut d (knd.hash k) key v) Q E s := by
  obtain ⟨o, es, ep, ho, hc, hd, hk, hp, once⟩ := hm
  have same : (es.findIdx? fun e => knd.is k e.key) = kvs.findIdx? fun kv => decide (kv.1 = k) := by
    rw [← hp.findIdx k]
    obtain ⟨l⟩ := es
    simp
  have small : es.size ≤ sizeLine := by
    have e1 := hp.length
    have e2 : es.toList.length = es.size := by simp
    omega
  unfold dictPut
  refine wpAny_bind (wpAny_dictFind_of hkey ho hd hk ?_)
  cases at_ : es.findIdx? fun e => knd.is k e.key with
  | some i =>
    refine wpAny_updateDict ho hd (then_ _ ⟨_, _, ep, Heap.get?_update_self _ ho (Obj.isFreed_of_dict (Obj.data_mapDict hd _)), hc.mapDict _, Obj.data_mapDict hd _, hk.modify _ _, ?_, ?_⟩ (Heap.SameBut.update ..))
    · rw [stored, if_pos (any_of_findIdx_some (same ▸ at_))]
      have hl : (es.toList.findIdx? fun e => knd.is k e.key) = some i := by
        rw [← at_]
        obtain ⟨l⟩ := es
        simp
      have := hp.modify once hl v
      obtain ⟨l⟩ := es
      simpa using this
    · rw [stored, if_pos (any_of_findIdx_some (same ▸ at_)), keys_map_store]
      exact once
  | none =>
    have out : k ∉ kvs.map (·.1) := not_mem_of_findIdx_none (same ▸ at_)
    have no : ¬ (kvs.any fun kv => decide (kv.1 = k)) = true := fun h => by
      obtain ⟨kv, hkv, he⟩ := List.any_eq_true.mp h
      exact out (List.mem_map.mpr ⟨kv, hkv, of_decide_eq_true he⟩)
    refine wpAny_updateDictKeys (hz := small) ho hd (then_ _ ⟨_, _, ep + 1, Heap.get?_update_self _ ho (Obj.isFreed_of_dict (Obj.data_mapDictKeys hd _)), hc.mapDictKeys _, Obj.data_mapDictKeys hd _, hk.push hkey _, ?_, ?_⟩ (Heap.SameBut.update ..))
    · rw [stored, if_neg no]
      have := hp.append hkey (knd.hash k) v
      obtain ⟨l⟩ := es
      simpa using this
    · rw [stored, if_neg no, List.map_append]
      refine List.nodup_append.mpr ⟨once, by simp, fun x hx y hy e => ?_⟩
      simp only [List.map_cons, List.map_nil, List.mem_singleton] at hy
      exact out (hy ▸ e ▸ hx)
end
end RM

set_option Elab.async false
set_option linter.all false
set_option maxRecDepth 100000
set_option maxHeartbeats 2000000
/-! {**a, **b} -/
namespace RM
open PySem PySem.Spec PyProof.Rows L2
section
variable {prog : Program} {w : World} {κ : Type} [DecidableEq κ] {knd : PySem.KeyKind prog w κ} {A : Around} {E : Value → Shared → Prop} {s : Shared} {d a : Addr} {kvs more : List (κ × Value)}
theorem merge_in {Q : Unit → Shared → Prop} (ne : d ≠ a) (lo : (a == sysModules) = false) (hd : s.heap.DictOf knd d kvs) (ha : s.heap.DictOf knd a more) (sz : kvs.length + more.length ≤ sizeLine)
    (then_ : ∀ h', h'.DictOf knd d (merged kvs more) → Heap.SameBut d s.heap h' → Q () { s with heap := h' }) : wpAny (model prog w) A (mergeMapping d (.ref a) false) Q E s := by
  obtain ⟨od, esd, epd, hod, _, hdd, _, _, _⟩ := id hd
  obtain ⟨oa, esa, epa, hoa, hca, hda, hka, hpa, hna⟩ := id ha
  have len : more.length = esa.size := by rw [← hpa.length]; simp
  unfold mergeMapping
  refine wpAny_bind (wpAny_isInstance ha.typeIs isSubtype_dict_dict ?_)
  rw [if_pos rfl]
  refine wpAny_bind (wpAny_specialOf ha.typeIs PySem.F.slot_dict_iter.lookup ?_)
  refine wpAny_bind (wpAny_pure ?_)
  rw [show (some (Value.builtin "dict.__iter__") == some (Value.builtin "dict.__iter__")) = true by decide]
  dsimp only
  rw [if_neg (by rw [lo]; exact Bool.false_ne_true)]
  have loop : wpAny (model prog w) A (do
      let es ← dictEntries a
      let epoch ← dictEpoch a
      forIn (List.range es.size) PUnit.unit fun i (_ : PUnit) => (do
          let es ← dictEntries a
          match es[i]? with
            | some e => do
              holding [e.key, e.val]
                  (if false = true then do
                    let l ← dictFind d e.key e.hash
                    if l.isSome = true then do
                        rule "dict.merge.duplicate-key"
                        let x ← newExc (Value.type "KeyError") [e.key]
                        raiseNew x
                        dictPut d e.hash e.key e.val
                      else dictPut d e.hash e.key e.val
                  else dictPut d e.hash e.key e.val)
              let ep ← dictEpoch a
              if (ep != epoch) = true then do
                  (unsupported "dict.changed-during-merge" : Sem PUnit)
                  pure (ForInStep.yield PUnit.unit)
                else pure (ForInStep.yield PUnit.unit)
            | _ => do
              (unsupported "dict.changed-during-merge" : Sem PUnit)
              pure (ForInStep.yield PUnit.unit) : Sem (ForInStep PUnit))
      pure ()) Q E s := by
    refine wpAny_bind (wpAny_dictEntries hoa hda (wpAny_bind (wpAny_dictEpoch hoa hda (wpAny_bind ?_))))
    refine wpAny_forIn_list _ (fun rest _ s' => ∃ h' i, s' = { s with heap := h' } ∧ rest = (List.range esa.size).drop i ∧ i ≤ esa.size ∧ h'.DictOf knd d (merged kvs (more.take i)) ∧ h'.get? a = some oa ∧ Heap.SameBut d s.heap h') _ ?_ ?_ _ _
      ⟨s.heap, 0, rfl, rfl, Nat.zero_le _, hd, hoa, Heap.SameBut.refl _ _⟩
    · rintro x rest b s' ⟨h', i, rfl, hr, hi, hd', hoa', hs'⟩
      have lt : i < esa.size := by
        rcases Nat.lt_or_ge i esa.size with h | h
        · exact h
        · rw [List.drop_eq_nil_of_le (by rw [List.length_range]; exact h)] at hr
          cases hr
      rw [List.drop_eq_getElem_cons (by rw [List.length_range]; exact lt), List.getElem_range] at hr
      injection hr with e1 e2
      subst e1 e2
      refine wpAny_bind (wpAny_dictEntries hoa' hda ?_)
      rw [Array.getElem?_eq_getElem lt]
      obtain ⟨⟨k, v⟩, hkv⟩ : ∃ kv, more[x]? = some kv := ⟨more[x]'(by rw [len]; exact lt), List.getElem?_eq_getElem _⟩
      obtain ⟨k1, v1⟩ := hpa.get? (e := esa[x]) (by simp [lt]) hkv
      obtain ⟨k2, k3, hh⟩ := hka esa[x] (Array.getElem_mem lt)
      obtain rfl : k2 = k := knd.inj _ _ _ k3 k1
      dsimp only
      rw [if_neg Bool.false_ne_true, hh, v1]
      have room : (merged kvs (more.take x)).length ≤ sizeLine := by
        have few := merged_length_le kvs (more.take x)
        rw [List.length_take] at few
        omega
      refine wpAny_bind (wpAny_holding (put_pair k1 hd' room fun h2 hd2 hs2 => ?_))
      have hoa2 : h2.get? a = some oa := (hs2.2 a (Ne.symm ne)).trans hoa'
      refine wpAny_bind (wpAny_dictEpoch hoa2 hda ?_)
      rw [if_neg (by simp)]
      exact wpAny_pure ⟨h2, x + 1, rfl, rfl, lt, by rw [merged_take_succ kvs more x (k2, v) hkv]; exact hd2, hoa2, hs'.trans hs2⟩
    · rintro b s' ⟨h', i, rfl, hr, hi, hd', hoa', hs'⟩
      have e : i = esa.size := by
        rcases Nat.lt_or_ge i esa.size with h | h
        · rw [List.drop_eq_getElem_cons (by rw [List.length_range]; exact h)] at hr
          cases hr
        · omega
      rw [e, ← len, List.take_length] at hd'
      exact wpAny_pure (then_ h' hd' hs')
  refine wpAny_bind (wpAny_dictEntries hod hdd ?_)
  split
  · refine wpAny_bind (wpAny_dictEntries hoa hda (wpAny_bind ?_))
    have quiet : (forIn esa PUnit.unit fun e (_ : PUnit) => (match e.key with
        | Value.ref _ => do
          let l ← specialOf e.key (Str.ofString "__eq__")
          if (l != some (Value.builtin "object.__eq__")) = true then
              if (Array.filter (fun x => x.hash == e.hash) esa).size > 1 then do
                (unsupported "dict.merge-into-an-empty-dict:keys-of-equal-hash" : Sem PUnit)
                pure (ForInStep.yield PUnit.unit)
              else pure (ForInStep.yield PUnit.unit)
            else pure (ForInStep.yield PUnit.unit)
        | _ => pure (ForInStep.yield PUnit.unit) : Sem (ForInStep PUnit))) = pure PUnit.unit := by
      rw [← Array.forIn_toList]
      refine forIn_yield_id _ fun e he c => ?_
      obtain ⟨k, hk, _⟩ := hka e (Array.mem_toList_iff.mp he)
      have bv := knd.byValue k _ hk
      cases q : e.key <;> first | rfl | (rw [q] at bv; exact absurd bv Bool.false_ne_true)
    exact wpAny_of_eq quiet loop
  · exact loop
end
/-- {**a, **b}: the new dict stands while the two are read -/
def tStar2 (ta tb : TE) : TE := fun σ H Q => ∀ p, H p = none → ta σ (upd H p (.dK [])) fun x H1 => ∃ a kvs, x = .ref a ∧ a ≠ p ∧ H1 p = some (.dK []) ∧ Rd H1 a (.dK kvs) ∧
  tb σ (upd H1 p (.dK (mergeK [] kvs))) fun y H2 => ∃ b more m1, y = .ref b ∧ b ≠ p ∧ H2 p = some (.dK m1) ∧ Rd H2 b (.dK more) ∧ m1.length + more.length ≤ sizeLine ∧ Q (.ref p) (upd H2 p (.dK (mergeK m1 more)))
section
variable {X : Cx}
theorem merge_V {pins : List (Addr × Obj)} {σ : L2.St} {H : Hp} {s : Shared} {p a : Addr} {m1 more : List (Key × V)} {A : Around} {E : Value → Shared → Prop} {Q : Unit → Shared → Prop} (I : Inv X pins σ H s) (hp : H p = some (.dK m1)) (ha : Rd H a (.dK more)) (ne : a ≠ p) (sz : m1.length + more.length ≤ sizeLine)
    (then_ : ∀ s', Inv X pins σ (upd H p (.dK (mergeK m1 more))) s' → Q () s') : wpAny (model X.prog X.w) A (mergeMapping p (.ref a) false) Q E s := by
  obtain ⟨z1, lo1, vs, r1, d1⟩ := dk_of I.hok hp
  obtain ⟨z2, lo2, us, r2, d2⟩ := dk_rd I.hok ha
  have l1 : m1.length = vs.length := r1.length
  have l2 : more.length = us.length := r2.length
  refine merge_in (Ne.symm ne) lo2 d1 d2 (by omega) fun h' hd hs => then_ _ ?_
  have len : (mergeK m1 more).length ≤ sizeLine := Nat.le_trans (length_mergeK more m1) sz
  have he : ∃ q, h'.get? p = some q := let ⟨q, _, _, hq, _⟩ := hd; ⟨q, hq⟩
  exact d_write (t' := s.toks) I (by rw [hp]; exact True.intro) hs he (dk_new len lo1 (KV.merge r2 r1) hd)
theorem pe_star2 {e1 e2 : Expr} {ta tb : TE} {pos : Pos} (h1 : PE X e1 ta) (h2 : PE X e2 tb) : PE X (.Dict [none, none] [e1, e2] pos) (tStar2 ta tb) := by
  refine ⟨fun pins s σ H Q I q => ?_⟩
  have q1 := q s.heap.objs.size (I.hok.fresh (Nat.le_refl _))
  have I1 := I.laid (t' := s.toks) (fun _ _ z => Heap.get?_push_of_some _ z) (Nat.le_refl _) (dk_empty (P := X.prog) (w := X.w) (H := upd H s.heap.objs.size (.dK [])) s.heap I.big)
  rw [arm_eval_Dict]
  refine wpAny_bind (wpAny_standAt ?_)
  show wpAny _ _ (dictDisplay [(none, do let x ← eval e1 X.env; standAt pos; pure x), (none, do let x ← eval e2 X.env; standAt pos; pure x)]) _ _ _
  unfold dictDisplay
  dsimp only
  refine wpAny_bind ?_
  rw [List.forIn_cons]
  refine wpAny_bind ?_
  dsimp only
  rw [if_pos (by rfl)]
  refine wpAny_bind (wpAny_pure ?_)
  dsimp only
  refine wpAny_bind (wpAny_alloc ?_)
  refine wpAny_bind (wpAny_holding (wpAny_bind (thn (h1.run pins _ σ _ _ I1 q1) ?_)))
  rintro v s1 ⟨_, H1, I2, rx, a, kvs, rfl, ne, hp, ha, q2⟩
  cases rx
  refine wpAny_bind (wpAny_standAt (wpAny_pure ?_))
  have l1 : kvs.length ≤ sizeLine := (dk_rd I2.hok ha).1
  refine wpAny_bind (wpAny_onRaise (wpAny_tryCatch (wpAny_onRaise (wpAny_holding (merge_V I2 hp ha ne (by rw [List.length_nil, Nat.zero_add]; exact l1) fun s2 I3 => ?_)))))
  refine wpAny_pure ?_
  dsimp only
  rw [List.forIn_cons]
  refine wpAny_bind ?_
  dsimp only
  rw [if_pos (by rfl)]
  refine wpAny_bind (wpAny_pure ?_)
  dsimp only
  refine wpAny_bind (wpAny_pure ?_)
  refine wpAny_bind (wpAny_holding (wpAny_bind (thn (h2.run pins _ σ _ _ I3 q2) ?_)))
  rintro v s3 ⟨_, H2, I4, rx, b, more, m1, rfl, ne2, hp2, hb, sz, q3⟩
  cases rx
  refine wpAny_bind (wpAny_standAt (wpAny_pure ?_))
  refine wpAny_bind (wpAny_onRaise (wpAny_tryCatch (wpAny_onRaise (wpAny_holding (merge_V I4 hp2 hb ne2 sz fun s4 I5 => ?_)))))
  refine wpAny_pure ?_
  dsimp only
  rw [List.forIn_nil]
  refine wpAny_pure ?_
  dsimp only
  rw [if_pos (by rfl)]
  refine wpAny_bind (wpAny_pure ?_)
  exact wpAny_pure ⟨.ref s.heap.objs.size, _, I5, rfl, q3⟩
end
end RM

set_option Elab.async false
set_option linter.all false
set_option maxRecDepth 100000
set_option maxHeartbeats 2000000
set_option pp.maxSteps 600
set_option pp.deepTerms false
namespace RM
open PySem PySem.Spec PyProof.Rows L2
theorem wPut_len (m : WM) (k : Str) (n : Int) : (wPut m k n).length ≤ m.length + 1 := by
  unfold wPut
  split
  · rw [List.length_map]; omega
  · rw [List.length_append]; exact Nat.le_refl _
theorem wOver_len (m : WM) : ∀ g : WM, (wOver m g).length ≤ m.length + g.length := fun g => by
  induction g generalizing m with
  | nil => exact Nat.le_refl _
  | cons q r ih =>
    have h1 := ih (wPut m q.1 q.2)
    have h2 := wPut_len m q.1 q.2
    show (wOver (wPut m q.1 q.2) r).length ≤ _
    rw [List.length_cons]
    omega
theorem mrg_nil {m : WM} (h : (wKeys m).Nodup) : mergeK [] (mK m) = mK m := by
  have e := mergeK_w [] m
  rw [wOver_nil h] at e
  exact e
section
variable {P : Program} {w : World} {K : PySem.W.Frag} {mg : Str → Option Value} {base : Heap}
/-! ### in, len, bool -/
def spInC (K : PySem.W.Frag) : Sp := fun vs H Q _ => match vs with
  | [x, y] => ∃ a m k, x = .ref a ∧ y = .str k ∧ ChgAt K H a m ∧ Q (.bl (decide (k ∈ wKeys m))) H
  | _ => False
theorem wGet_isSome {m : WM} {k : Str} : ((wGet m k).map V.int).isSome = decide (k ∈ wKeys m) := by
  rw [Bool.eq_iff_iff, decide_eq_true_iff]
  cases e : wGet m k with
  | none => simp [wGet_none.mp e]
  | some n => simp; exact List.mem_map.mpr ⟨(k, n), wGet_some e, rfl⟩
theorem sc_Change_contains : FnScope ["self", "key"] ["self", "key"] (defScope s_Change_contains) := ⟨rfl, rfl, rfl, by decide +kernel, rfl, by decide +kernel, by decide +kernel⟩
theorem o_Change_contains (T : Top w K mg) : OwnC P w K mg base CX0 1 (He.ga K "Change") "__contains__" (spInC K) := by
  refine own_C0 (f_Change_contains T) (spc_Change_contains T) sc_Change_contains (fun _ _ _ _ _ _ us hl => match us, hl with | [_, _], _ => rfl) (fun vs H Q E h => match vs, h with | [_, _], _ => rfl) (fun cdv A outer s H vs Q E hr h => ?_)
  match vs, h with
  | [x, y], h =>
  obtain ⟨a, m, k, rfl, rfl, ⟨⟨dx, p, ha, hp, okm, sm⟩, l4⟩, q⟩ := h
  refine ⟨_, (pss_one (ps_ret (pe_cmp (pc_din (hu_of hr) (pv 1) (pe_fld (pv 0) rfl))))), ?_⟩
  refine ⟨_, rfl, _, rfl, a, _, dx, _, _, rfl, ha, k_Change T, na_Change_given T, rfl, p, _, rfl, .inl ⟨mK m, .inr k, .of hp, rfl, rfl⟩, ?_⟩
  rw [valV_get, wGet_isSome]
  exact q
def spLenC (K : PySem.W.Frag) : Sp := fun vs H Q _ => match vs with
  | [x] => ∃ a m, x = .ref a ∧ ChgAt K H a m ∧ Q (.int (m.length : Nat)) H
  | _ => False
theorem sc_Change_len : FnScope ["self"] ["self"] (defScope s_Change_len) := ⟨rfl, rfl, rfl, by decide +kernel, rfl, by decide +kernel, by decide +kernel⟩
theorem o_Change_len (T : Top w K mg) : OwnC P w K mg base CX0 1 (He.ga K "Change") "__len__" (spLenC K) := by
  refine own_C0 (f_Change_len T) (spc_Change_len T) sc_Change_len (fun _ _ _ _ _ _ us hl => match us, hl with | [_], _ => rfl) (fun vs H Q E h => match vs, h with | [_], _ => rfl) (fun cdv A outer s H vs Q E hr h => ?_)
  match vs, h with
  | [x], h =>
  obtain ⟨a, m, rfl, ⟨⟨dx, p, ha, hp, okm, sm⟩, l4⟩, q⟩ := h
  refine ⟨_, (pss_one (ps_ret (pcb (z_len T) call_lenD boot_len (pa_cons (pe_fld (pv 0) rfl) pa_nil)))), ?_⟩
  have lm : (mK m).length = m.length := List.length_map ..
  rw [← lm] at q
  exact ⟨_, rfl, a, _, dx, _, _, rfl, ha, k_Change T, na_Change_given T, rfl, p, _, rfl, hp, q⟩
def spBoolC (K : PySem.W.Frag) : Sp := fun vs H Q _ => match vs with
  | [x] => ∃ a m, x = .ref a ∧ ChgAt K H a m ∧ Q (.bl (!m.isEmpty)) H
  | _ => False
theorem sc_Change_bool : FnScope ["self"] ["self"] (defScope s_Change_bool) := ⟨rfl, rfl, rfl, by decide +kernel, rfl, by decide +kernel, by decide +kernel⟩
theorem o_Change_bool (T : Top w K mg) : OwnC P w K mg base CX0 1 (He.ga K "Change") "__bool__" (spBoolC K) := by
  refine own_C0 (f_Change_bool T) (spc_Change_bool T) sc_Change_bool (fun _ _ _ _ _ _ us hl => match us, hl with | [_], _ => rfl) (fun vs H Q E h => match vs, h with | [_], _ => rfl) (fun cdv A outer s H vs Q E hr h => ?_)
  match vs, h with
  | [x], h =>
  obtain ⟨a, m, rfl, ⟨⟨dx, p, ha, hp, okm, sm⟩, l4⟩, q⟩ := h
  refine ⟨_, (pss_one (ps_ret (pct (z_bool T) call_boolD boot_bool (pa_cons (pe_fld (pv 0) rfl) pa_nil)))), ?_⟩
  refine ⟨_, rfl, a, _, dx, _, _, rfl, ha, k_Change T, na_Change_given T, rfl, p, mK m, rfl, .of hp, ?_⟩
  cases m <;> exact q
/-! ### == -/
def spCEqW (K : PySem.W.Frag) : Sp := fun vs H Q _ => match vs with
  | [x, y] => ∃ a b m g, x = .ref a ∧ y = .ref b ∧ ChgAt K H a m ∧ ChgAt K H b g ∧ Q (.bl (sameW m g)) H
  | _ => False
theorem sc_Change_eq : FnScope ["self", "other"] ["self", "other"] (defScope s_Change_eq) := ⟨rfl, rfl, rfl, by decide +kernel, rfl, by decide +kernel, by decide +kernel⟩
theorem o_Change_eqW (T : Top w K mg) : Own P w K mg base 1 (He.ga K "Change") "__eq__" (spCEqW K) := by
  refine own_0 (f_Change_eq T) (spc_Change_eq T) sc_Change_eq (fun _ _ _ _ _ _ us hl => match us, hl with | [_, _], _ => rfl) (fun vs H Q E h => match vs, h with | [_, _], _ => rfl) (fun cdv A outer s H vs Q E hr h => ?_)
  match vs, h with
  | [x, y], h =>
  obtain ⟨a, b, m, g, rfl, rfl, ⟨⟨dx, p, ha, hp, okm, sm⟩, l4⟩, ⟨⟨dy, p2, hb, hp2, _, _⟩, _⟩, q⟩ := h
  refine ⟨_, (pss_cons (ps_if (pt_not (pt_val (pcb (z_isinstance T) call_isi boot_isinstance (pa_cons (pv 1) (pa_cons (pglR (g_Change T)) pa_nil)))))
      (pss_one ps_never)
      pss_nil)
    (pss_one (ps_ret (pe_cmpR (op_eqW (room8 hr)) (pe_fld (pv 0) rfl) (pe_fld (pv 1) rfl) (nomark _))))), ?_⟩
  refine ⟨_, rfl, _, _, _, _, true, rfl, .own _, .base (insB_ty (ins_Change T) (k_Change T) hb), kitC_ok (kit_Change_Change T), ?_⟩
  refine ⟨_, rfl, ifF rfl ?_⟩
  refine ⟨_, rfl, a, _, dx, _, _, rfl, ha, k_Change T, na_Change_given T, rfl, _, rfl, b, _, dy, _, _, rfl, hb, k_Change T, na_Change_given T, rfl, ?_⟩
  exact ⟨p, p2, m, g, rfl, rfl, hp, hp2, q⟩
/-! ### + -/
def spAddC (K : PySem.W.Frag) : Sp := fun vs H Q E => match vs with
  | [x, y] => ∃ a b g g2, x = .ref a ∧ y = .ref b ∧ ChgAt K H a g ∧ ChgAt K H b g2 ∧
    ((wOver g g2).length ≤ 4 → ∀ p g3 pp H', Same H H' → H p = none → H pp = none → ChgP K H' p g3 pp → g3.Perm (wOver g g2) → Q (.ref p) H') ∧
    (4 < (wOver g g2).length → ∀ H', Same H H' → E (.ref (He.ga K "BadValues")) none H')
  | _ => False
theorem sc_Change_add : FnScope ["self", "other"] ["self", "other"] (defScope s_Change_add) := ⟨rfl, rfl, rfl, by decide +kernel, rfl, by decide +kernel, by decide +kernel⟩
theorem o_Change_addX (T : Top w K mg) : OwnX P w K mg base 6 (He.ga K "Change") "__add__" (spAddC K) := by
  refine own_X (f_Change_add T) (spc_Change_add T) sc_Change_add (fun _ _ _ _ _ _ us hl => match us, hl with | [_, _], _ => rfl) (fun vs H Q E h => match vs, h with | [_, _], _ => rfl) (fun cdv A outer s H vs Q E hr h => ?_)
  match vs, h with
  | [x, y], h =>
  obtain ⟨a, b, g, g2, rfl, rfl, ca, cb, q, qE⟩ := h
  obtain ⟨⟨dx, p, ha, hp, okg, sg⟩, lg⟩ := id ca
  obtain ⟨⟨dy, p2, hb, hp2, okg2, sg2⟩, lg2⟩ := id cb
  refine ⟨_, (pss_cons (ps_if (pt_not (pt_val (pcb (z_isinstance T) call_isi boot_isinstance (pa_cons (pv 1) (pa_cons (pglR (g_Change T)) pa_nil)))))
      (pss_one ps_never)
      pss_nil)
    (pss_one (ps_ret (pmkX (takes_of rfl rfl rfl rfl) (cx_Change_init T) hr (pa_cons (pe_star2 (pe_fld (pv 0) rfl) (pe_fld (pv 1) rfl)) pa_nil))))), ?_⟩
  refine ⟨_, rfl, _, _, _, _, true, rfl, .own _, .base (insB_ty (ins_Change T) (k_Change T) hb), kitC_ok (kit_Change_Change T), ?_⟩
  refine ⟨_, rfl, ifF rfl ?_⟩
  refine fun r nr => ?_
  have ra : a ≠ r := ne_of_none ha nr
  have rb : b ≠ r := ne_of_none hb nr
  have rp : p ≠ r := ne_of_none hp nr
  have rp2 : p2 ≠ r := ne_of_none hp2 nr
  have e1 : mergeK [] (mK g) = mK g := mrg_nil okg.2
  refine ⟨_, rfl, a, _, dx, _, _, rfl, by rw [upd_ne ra]; exact ha, k_Change T, na_Change_given T, rfl, p, mK g, rfl, rp, upd_same, .of (by rw [upd_ne rp]; exact hp), ?_⟩
  refine ⟨_, rfl, b, _, dy, _, _, rfl, by rw [upd_ne rb, upd_ne rb]; exact hb, k_Change T, na_Change_given T, rfl, p2, mK g2, mK g, rfl, rp2, by rw [upd_same, e1], .of (by rw [upd_ne rp2, upd_ne rp2]; exact hp2), ?_, ?_⟩
  · show (g.map _).length + (g2.map _).length ≤ _
    rw [List.length_map, List.length_map]
    exact Nat.le_of_lt (small1000 (by omega))
  intro x dx2 hx hdx hne
  have mI := mk_in (C := He.ga K "Change") hx hdx hne
  have hR : (upd (upd (upd H r (.dK [])) r (.dK (mergeK [] (mK g)))) r (.dK (mergeK (mK g) (mK g2)))) r = some (.dK (mK (wOver g g2))) := by rw [upd_same, mergeK_w]
  have hR2 := mI _ _ hR
  have okO := okM_over okg okg2.1
  have xr : x ≠ r := fun z => by rw [z, hR] at hx; cases hx
  have lO : (wOver g g2).length ≤ 8 := by
    have := wOver_len g g2
    omega
  have s1 : Same H (upd (upd (upd H r (.dK [])) r (.dK (mergeK [] (mK g)))) r (.dK (mergeK (mK g) (mK g2)))) := fun c u hc => by
    have := ne_of_none hc nr
    rw [upd_ne this, upd_ne this, upd_ne this]
    exact hc
  -- what is left of the old heap
  have out : ∀ {H' : Hp}, Off x (upd (upd (upd (upd (upd (upd H r (.dK [])) r (.dK (mergeK [] (mK g)))) r (.dK (mergeK (mK g) (mK g2)))) dx2 (.own x)) x (.ins (He.ga K "Change") dx2 [])) r (gO w r (ofK (mK (wOver g g2))))) H' → Same H H' := fun {H'} off c u hc => by
    have c1 := ne_of_none hc nr
    have hc1 := s1 _ _ hc
    have c2 : c ≠ x := fun z => by rw [z, hx] at hc1; cases hc1
    refine off c u c2 ?_
    rw [upd_ne c1]
    exact mI _ _ hc1
  have ppn : ∀ {pp : Addr}, (upd (upd (upd (upd (upd (upd H r (.dK [])) r (.dK (mergeK [] (mK g)))) r (.dK (mergeK (mK g) (mK g2)))) dx2 (.own x)) x (.ins (He.ga K "Change") dx2 [])) r (gO w r (ofK (mK (wOver g g2))))) pp = none → pp ≠ r := fun {pp} h z => by rw [z, upd_same] at h; cases h
  have gk : goodG (ofK (mK (wOver g g2))) 0 = decide ((wOver g g2).length ≤ 4) := by
    unfold goodG
    rw [right_K okO, ofK_len]
    show (true && decide ((mK (wOver g g2)).length ≤ 4) && true) = _
    rw [Bool.true_and, Bool.and_true]
    unfold mK
    rw [List.length_map]
  refine ⟨x, dx2, r, ofK (mK (wOver g g2)), _, rfl, rfl, .toG hR2 (by unfold mK; rw [List.length_map]; omega), by rw [upd_ne xr]; exact upd_same, upd_same, gOk_K okO, by rw [ofK_len]; unfold mK; rw [List.length_map]; omega, fun gd H' m2 pp off mp npp pm => ⟨rfl, ?_⟩, fun gd H' off => ?_⟩
  · rw [gk] at gd
    rw [mOf_K] at pm
    exact q (of_decide_eq_true gd) x m2 pp H' (out off) (s1.free hx) (s1.free (mI.free (by rw [upd_ne (ppn npp)] at npp; exact npp))) mp pm
  · rw [gk] at gd
    exact qE (by have := of_decide_eq_false gd; omega) H' (out off)
end
end RM

set_option Elab.async false
set_option linter.all false
set_option maxRecDepth 100000
set_option maxHeartbeats 2000000
namespace RM
open PySem PySem.Spec PyProof.Rows L2
/-! ### the draws: a list of four at d, apart from all else -/
def Hd4 (H : Hp) (d sc : Addr) : Prop := ∃ (p q r : Int), H d = some (.lst [.ref sc, .int p, .int q, .int r]) ∧ 0 ≤ p
def Scr (K : PySem.W.Frag) (H : Hp) (sc : Addr) : Prop := ∃ xs : List Int, SqL K H sc (xs.map V.int)
def DrawAt (K : PySem.W.Frag) (H : Hp) (d sc : Addr) : Prop := Hd4 H d sc ∧ Scr K (del H d) sc
/-- all but d is kept -/
def But (d : Addr) (H H' : Hp) : Prop := Same (del H d) (del H' d)
theorem But.refl (d : Addr) (H : Hp) : But d H H := Same.refl _
theorem But.trans {d : Addr} {H H1 H2 : Hp} (a : But d H H1) (b : But d H1 H2) : But d H H2 := Same.trans a b
theorem del_sm (H : Hp) (d : Addr) : Same (del H d) H := fun b u z => by
  by_cases hb : b = d
  · rw [hb, del_same] at z
    cases z
  · rwa [del_ne hb] at z
theorem but_upd (d : Addr) (H : Hp) (o : HO) : But d H (upd H d o) := fun b u z => by
  by_cases hb : b = d
  · rw [hb, del_same] at z
    cases z
  · rw [del_ne hb] at z ⊢
    rw [upd_ne hb]
    exact z
theorem but_sm {d : Addr} {H H' : Hp} (e : Same H H') : But d H H' := fun b u z => by
  by_cases hb : b = d
  · rw [hb, del_same] at z
    cases z
  · rw [del_ne hb] at z ⊢
    exact e _ _ z
theorem But.get {d b : Addr} {H H' : Hp} {o : HO} (e : But d H H') (hb : b ≠ d) (h : H b = some o) : H' b = some o := by
  have := e b o (by rw [del_ne hb]; exact h)
  rwa [del_ne hb] at this
theorem Scr.keep {K : PySem.W.Frag} {H H' : Hp} {sc : Addr} (e : Same H H') (h : Scr K H sc) : Scr K H' sc := let ⟨xs, h⟩ := h; ⟨xs, e.seq h⟩
theorem Hd4.keep {H H' : Hp} {d sc : Addr} (e : Same H H') (h : Hd4 H d sc) : Hd4 H' d sc := let ⟨p, q, r, h, z⟩ := h; ⟨p, q, r, e _ _ h, z⟩
theorem DrawAt.keep {K : PySem.W.Frag} {H H' : Hp} {d sc : Addr} (e : Same H H') (h : DrawAt K H d sc) : DrawAt K H' d sc := ⟨h.1.keep e, h.2.keep (but_sm e)⟩
theorem DrawAt.set {K : PySem.W.Frag} {H : Hp} {d sc : Addr} {xs : List Int} (h2 : SqL K (del H d) sc (xs.map V.int)) {p : Int} (h3 : 0 ≤ p) (q r : Int) : DrawAt K (upd H d (.lst [.ref sc, .int p, .int q, .int r])) d sc :=
  ⟨⟨p, q, r, upd_same, h3⟩, xs, (but_upd d H _).seq h2⟩
theorem Hd4.ne {H : Hp} {d sc : Addr} (h : Hd4 H d sc) : H d ≠ none := by
  obtain ⟨p, q, r, h, _⟩ := h
  rw [h]
  exact fun z => nomatch z
/-! ### what is new since H0 -/
def nw (H0 H : Hp) : Hp := fun b => match H0 b with
  | none => H b
  | some _ => none
theorem nw_new {H0 H : Hp} {b : Addr} (h : H0 b = none) : nw H0 H b = H b := by
  unfold nw
  rw [h]
theorem nw_some {H0 H : Hp} {b : Addr} {u : HO} (h : nw H0 H b = some u) : H0 b = none ∧ H b = some u := by
  unfold nw at h
  cases e : H0 b with
  | none => rw [e] at h; exact ⟨rfl, h⟩
  | some v => rw [e] at h; cases h
theorem nw_sm (H0 H : Hp) : Same (nw H0 H) H := fun b u z => (nw_some z).2
/-- all of H0 stands in H -/
def Gro (H0 H : Hp) : Prop := ∀ b, H b = none → H0 b = none
theorem Gro.refl (H : Hp) : Gro H H := fun _ h => h
theorem Gro.trans {H0 H1 H2 : Hp} (a : Gro H0 H1) (b : Gro H1 H2) : Gro H0 H2 := fun c h => a c (b c h)
theorem gro_sm {H0 H : Hp} (e : Same H0 H) : Gro H0 H := fun b h => e.free h
theorem gro_upd {H : Hp} {p : Addr} {o : HO} : Gro H (upd H p o) := fun b h => by
  by_cases hb : b = p
  · rw [hb, upd_same] at h
    cases h
  · rwa [upd_ne hb] at h
theorem gro_but {d : Addr} {H0 H : Hp} (e : But d H0 H) (hd : H d ≠ none) : Gro H0 H := fun b h => by
  by_cases hb : b = d
  · rw [hb] at h
    exact absurd h hd
  · cases z : H0 b with
    | none => rfl
    | some u =>
      rw [e.get hb z] at h
      cases h
theorem nw_but {d : Addr} {H0 H H' : Hp} (e : But d H H') (h0 : H0 d ≠ none) : Same (nw H0 H) (nw H0 H') := fun b u z => by
  obtain ⟨z1, z2⟩ := nw_some z
  rw [nw_new z1]
  exact e.get (fun q => h0 (by rw [← q]; exact z1)) z2
theorem nw_keep {H0 H H' : Hp} (e : Same H H') : Same (nw H0 H) (nw H0 H') := fun b u z => by
  obtain ⟨z1, z2⟩ := nw_some z
  rw [nw_new z1]
  exact e _ _ z2
theorem nw_back {H0 H1 H : Hp} (g : Gro H0 H1) : Same (nw H1 H) (nw H0 H) := fun b u z => by
  obtain ⟨z1, z2⟩ := nw_some z
  rw [nw_new (g _ z1)]
  exact z2
/-- what is new since H1 isn't p, that stood in H1 -/
theorem nw_del {H1 H : Hp} {p : Addr} (h : H1 p ≠ none) : Same (nw H1 H) (del (nw H1 H) p) := fun b u z => by
  rw [del_ne fun q => h (by rw [← q]; exact (nw_some z).1)]
  exact z
theorem del_mono {p : Addr} {H H' : Hp} (e : Same H H') : Same (del H p) (del H' p) := but_sm e
section
variable {P : Program} {w : World} {K : PySem.W.Frag} {mg : Str → Option Value} {base : Heap}
def spBegin (K : PySem.W.Frag) : Sp := fun vs H Q _ => match vs with
  | [x] => ∃ (a : Addr) (xs : List Int), x = .ref a ∧ SqL K H a (xs.map V.int) ∧ ∀ d sc H', Same H H' → H d = none → DrawAt K H' d sc → Q (.ref d) H'
  | _ => False
theorem sc_law_begin : FnScope ["_law_script"] ["_law_script"] (defScope s_law_begin) := ⟨rfl, rfl, rfl, by decide +kernel, rfl, by decide +kernel, by decide +kernel⟩
theorem c_law_begin (T : Top w K mg) : Cal P w K mg base CX0 1 "_law_begin" (spBegin K) := by
  refine cal_0 (f_law_begin T) (g_law_begin T) sc_law_begin (fun _ _ _ _ _ _ us hl => match us, hl with | [_], _ => rfl) (fun vs H Q E h => match vs, h with | [_], _ => rfl) (fun cdv A outer s H vs Q E hr h => ?_)
  match vs, h with
  | [x], h =>
  obtain ⟨a, xs, rfl, ha, q⟩ := h
  refine ⟨_, (pss_one (ps_ret (pe_lst (pa_cons (pct (z_list T) call_list_of boot_list (pa_cons (pv 0) pa_nil)) (pa_cons pe_int (pa_cons pe_int (pa_cons pe_int pa_nil))))))), ?_⟩
  refine ⟨_, rfl, a, _, rfl, .inl ha, fun sc hsc => ?_⟩
  refine ⟨(by show 4 ≤ sizeLine; decide), fun d hd => ?_⟩
  have s1 : Same H (upd H sc (.lst (xs.map V.int))) := smNew1 hsc _
  refine q d sc _ (smNew s1 hd _) (s1.free hd) ⟨⟨0, 0, 7, upd_same, Int.le_refl 0⟩, xs, ?_⟩
  refine SqL.of ?_
  have hne : sc ≠ d := fun e => by
    rw [← e, upd_same] at hd
    cases hd
  rw [del_ne hne, upd_ne hne]
  exact upd_same
/-! ### _law_draw -/
def spDraw (K : PySem.W.Frag) : Sp := fun vs H Q _ => match vs with
  | [x, y] => ∃ d sc m, x = .ref d ∧ y = .int m ∧ DrawAt K H d sc ∧ 0 < m ∧ m < 1000000 ∧ ∀ r H', 0 ≤ r → r < m → But d H H' → DrawAt K H' d sc → Q (.int r) H'
  | _ => False
theorem sc_law_draw : FnScope ["_law_draws", "_law_many", "_law_cell", "_law_found"] ["_law_draws", "_law_many"] (defScope s_law_draw) := ⟨rfl, rfl, rfl, by decide +kernel, rfl, by decide +kernel, by decide +kernel⟩
theorem c_law_draw (T : Top w K mg) : Cal P w K mg base CX0 1 "_law_draw" (spDraw K) := by
  refine cal_0 (f_law_draw T) (g_law_draw T) sc_law_draw (fun _ _ _ _ _ _ us hl => match us, hl with | [_, _], _ => rfl) (fun vs H Q E h => match vs, h with | [_, _], _ => rfl) (fun cdv A outer s H vs Q E hr h => ?_)
  match vs, h with
  | [x, y], h =>
  obtain ⟨d, sc, m, rfl, rfl, ⟨⟨p, q0, r, hd, hp⟩, xs, hs⟩, m0, m1, q⟩ := h
  refine ⟨_, (pss_cons (ps_if (pt_cmpR op_eq (pe_ix ix_list (pv 0) pe_int (fun _ _ => rfl)) pe_int (nomark _))
      (pss_one (ps_if (pt_cmpR op_lt (pe_ix ix_list (pv 0) pe_int (fun _ _ => rfl)) (pcb (z_len T) call_len_seq boot_len (pa_cons (pe_ix ix_list (pv 0) pe_int (fun _ _ => rfl)) pa_nil)) (nomark _))
      (pss_cons (ps_set (i := 2) sc_law_draw.nd rfl (Or.inl rfl) (pe_ix ix_list (pe_ix ix_list (pv 0) pe_int (fun _ _ => rfl)) (pe_ix ix_list (pv 0) pe_int (fun _ _ => rfl)) (fun _ _ => rfl)))
    (pss_cons (ps_asg (pe_op op_add (pe_ix ix_list (pv 0) pe_int (fun _ _ => rfl)) pe_int) (pg_sub (pv 0) pe_int set_list))
    (pss_one (ps_if (pt_cmpR op_ge (pv 2) (pe_op op_pow pe_int pe_int) (nomark _))
      (pss_one (ps_asg (pv 2) (pg_sub (pv 0) pe_int set_list)))
      (pss_one (ps_asg (pe_op op_mod (pct (z_int T) call_int1 boot_int (pa_cons (pe_op op_add (pe_op op_add (pe_op op_mul (pe_ix ix_list (pv 0) pe_int (fun _ _ => rfl)) pe_int) (pe_op op_mul (pv 2) pe_int)) pe_int) pa_nil)) pe_int) (pg_sub (pv 0) pe_int set_list)))))))
      (pss_one (ps_asg (pe_op op_mod (pct (z_int T) call_int1 boot_int (pa_cons (pe_op op_add (pe_op op_mul (pe_ix ix_list (pv 0) pe_int (fun _ _ => rfl)) pe_int) pe_int) pa_nil)) pe_int) (pg_sub (pv 0) pe_int set_list)))))
      pss_nil)
    (pss_cons (ps_if (pt_cmpR op_gt (pe_ix ix_list (pv 0) pe_int (fun _ _ => rfl)) pe_int (nomark _))
      (pss_cons (ps_set (i := 3) sc_law_draw.nd rfl (Or.inl rfl) (pe_op op_mod (pct (z_int T) call_int1 boot_int (pa_cons (pe_ix ix_list (pv 0) pe_int (fun _ _ => rfl)) pa_nil)) (pv 1)))
    (pss_cons (ps_asg (pe_op op_fdiv (pe_ix ix_list (pv 0) pe_int (fun _ _ => rfl)) (pv 1)) (pg_sub (pv 0) pe_int set_list))
    (pss_one (ps_ret (pv 3)))))
      pss_nil)
    (pss_one (ps_ret (pe_op op_mod (pe_op op_mod (pct (z_int T) call_int1 boot_int (pa_cons (pe_op op_mul (pe_ix ix_list (pv 0) pe_int (fun _ _ => rfl)) pe_int) pa_nil)) pe_int) (pv 1)))))), ?_⟩
  have hs0 : SqL K H sc (xs.map V.int) := (del_sm H d).seq hs
  refine ⟨_, rfl, _, _, _, _, rfl, rfl, SqL.of hd, at2, rfl, _, rfl, ?_⟩
  refine ifB (fun hq => ?_) (fun hq => ?_)
  · refine ⟨_, rfl, _, _, _, _, rfl, rfl, SqL.of hd, at1, ?_⟩
    refine ⟨_, rfl, _, _, _, _, rfl, rfl, SqL.of hd, at0, _, _, rfl, .inl hs0, ?_⟩
    refine ⟨_, _, rfl, rfl, _, rfl, ?_⟩
    refine ifB (fun hl => ?_) (fun hl => ?_)
    · have hl1 : p < ((xs.map V.int).length : Nat) := of_decide_eq_true hl
      rw [List.length_map] at hl1
      obtain ⟨k, rfl⟩ : ∃ k : Nat, p = k := ⟨p.toNat, by omega⟩
      have hk : k < xs.length := by omega
      -- the cell
      refine ⟨_, rfl, _, _, _, _, rfl, rfl, SqL.of hd, at0, ?_⟩
      refine ⟨_, rfl, _, _, _, _, rfl, rfl, SqL.of hd, at1, ?_⟩
      refine ⟨_, _, _, V.int xs[k], rfl, rfl, hs0, atI_nat (by rw [List.getElem?_map, List.getElem?_eq_getElem hk]; rfl), ?_⟩
      -- the place
      refine ⟨_, rfl, _, _, _, _, rfl, rfl, SqL.of hd, at1, ?_⟩
      refine ⟨_, _, rfl, rfl, ?_⟩
      refine ⟨_, rfl, d, _, _, 1, rfl, rfl, hd, rfl, ?_⟩
      obtain ⟨H1, e1, hd1, hs1, bt1⟩ : ∃ H1, H1 = upd H d (.lst [.ref sc, .int ((k : Int) + 1), .int q0, .int r]) ∧ H1 d = some (.lst [.ref sc, .int ((k : Int) + 1), .int q0, .int r]) ∧ SqL K (del H1 d) sc (xs.map V.int) ∧ But d H H1 := ⟨_, rfl, upd_same, (but_upd d H _).seq hs, but_upd d H _⟩
      have e1' : upd H d (.lst ([V.ref sc, .int k, .int q0, .int r].set 1 (.int ((k : Int) + 1)))) = H1 := e1.symm
      rw [e1']
      have hp2 : (0 : Int) ≤ (k : Int) + 1 := by omega
      refine ⟨_, rfl, _, _, rfl, rfl, ⟨by decide, by decide, by decide⟩, ?_⟩
      refine ⟨_, _, rfl, rfl, _, rfl, ?_⟩
      refine ifB (fun hc => ?_) (fun hc => ?_)
      · refine ⟨_, rfl, _, rfl, d, _, _, 2, rfl, rfl, hd1, rfl, ?_⟩
        obtain ⟨H2, e2, hd2, hs2, bt⟩ : ∃ H2, H2 = upd H1 d (.lst [.ref sc, .int ((k : Int) + 1), .int xs[k], .int r]) ∧ H2 d = some (.lst [.ref sc, .int ((k : Int) + 1), .int xs[k], .int r]) ∧ SqL K (del H2 d) sc (xs.map V.int) ∧ But d H H2 := ⟨_, rfl, upd_same, (but_upd d H1 _).seq hs1, bt1.trans (but_upd d H1 _)⟩
        have e2' : upd H1 d (.lst ([V.ref sc, .int ((k : Int) + 1), .int q0, .int r].set 2 (.int xs[k]))) = H2 := e2.symm
        rw [e2']
        refine ⟨_, rfl, _, _, _, _, rfl, rfl, SqL.of hd2, at2, _, _, rfl, rfl, _, rfl, ?_⟩
        refine ifB (fun hq2 => ?_) (fun hq2 => ?_)
        · refine ⟨_, rfl, _, _, _, _, rfl, rfl, SqL.of hd2, at2, .inl ⟨_, rfl, ?_⟩⟩
          refine ⟨_, rfl, _, _, rfl, rfl, m0, ?_⟩
          refine ⟨_, rfl, _, _, _, _, rfl, rfl, SqL.of hd2, at2, ?_⟩
          refine ⟨_, rfl, _, _, rfl, rfl, ⟨m0, by omega⟩, ?_⟩
          refine ⟨_, rfl, d, _, _, 2, rfl, rfl, hd2, rfl, ?_⟩
          refine ⟨_, rfl, ?_⟩
          exact q _ _ (Int.emod_nonneg _ (by omega)) (Int.emod_lt_of_pos _ m0) (bt.trans (but_upd d _ _)) (DrawAt.set hs2 hp2 _ _)
        · refine ⟨_, rfl, _, _, _, _, rfl, rfl, SqL.of hd2, at3, ?_⟩
          refine ⟨_, _, rfl, rfl, .inr (by decide), .inl ⟨_, rfl, ?_⟩⟩
          refine ⟨_, _, rfl, rfl, (by show (0 : Int) < _; decide), ?_⟩
          refine ⟨_, rfl, _, _, rfl, rfl, m0, ?_⟩
          exact q _ _ (Int.emod_nonneg _ (by omega)) (Int.emod_lt_of_pos _ m0) bt ⟨⟨_, _, _, hd2, hp2⟩, _, hs2⟩
      · refine ⟨_, rfl, _, _, _, _, rfl, rfl, SqL.of hd1, at3, ?_⟩
        refine ⟨_, _, rfl, rfl, .inr (by decide), ?_⟩
        refine ⟨_, rfl, _, _, rfl, rfl, .inr (by decide), ?_⟩
        refine ⟨_, _, rfl, rfl, _, _, rfl, rfl, .inl ⟨_, rfl, ?_⟩⟩
        refine ⟨_, _, rfl, rfl, (by show (0 : Int) < _; decide), ?_⟩
        refine ⟨_, rfl, d, _, _, 3, rfl, rfl, hd1, rfl, ?_⟩
        obtain ⟨H2, e2, hd2, hs2, bt⟩ : ∃ H2, H2 = upd H1 d (.lst [.ref sc, .int ((k : Int) + 1), .int q0, .int ((r * 48271 + xs[k] * 69621 + 11) % 2147483647)]) ∧ H2 d = some (.lst [.ref sc, .int ((k : Int) + 1), .int q0, .int ((r * 48271 + xs[k] * 69621 + 11) % 2147483647)]) ∧ SqL K (del H2 d) sc (xs.map V.int) ∧ But d H H2 := ⟨_, rfl, upd_same, (but_upd d H1 _).seq hs1, bt1.trans (but_upd d H1 _)⟩
        have e2' : upd H1 d (.lst ([V.ref sc, .int ((k : Int) + 1), .int q0, .int r].set 3 (.int ((r * 48271 + xs[k] * 69621 + 11) % 2147483647)))) = H2 := e2.symm
        rw [e2']
        refine ⟨_, rfl, _, _, _, _, rfl, rfl, SqL.of hd2, at2, _, _, rfl, rfl, _, rfl, ?_⟩
        refine ifB (fun hq2 => ?_) (fun hq2 => ?_)
        · refine ⟨_, rfl, _, _, _, _, rfl, rfl, SqL.of hd2, at2, .inl ⟨_, rfl, ?_⟩⟩
          refine ⟨_, rfl, _, _, rfl, rfl, m0, ?_⟩
          refine ⟨_, rfl, _, _, _, _, rfl, rfl, SqL.of hd2, at2, ?_⟩
          refine ⟨_, rfl, _, _, rfl, rfl, ⟨m0, by omega⟩, ?_⟩
          refine ⟨_, rfl, d, _, _, 2, rfl, rfl, hd2, rfl, ?_⟩
          refine ⟨_, rfl, ?_⟩
          exact q _ _ (Int.emod_nonneg _ (by omega)) (Int.emod_lt_of_pos _ m0) (bt.trans (but_upd d _ _)) (DrawAt.set hs2 hp2 _ _)
        · refine ⟨_, rfl, _, _, _, _, rfl, rfl, SqL.of hd2, at3, ?_⟩
          refine ⟨_, _, rfl, rfl, .inr (by decide), .inl ⟨_, rfl, ?_⟩⟩
          refine ⟨_, _, rfl, rfl, (by show (0 : Int) < _; decide), ?_⟩
          refine ⟨_, rfl, _, _, rfl, rfl, m0, ?_⟩
          exact q _ _ (Int.emod_nonneg _ (by omega)) (Int.emod_lt_of_pos _ m0) bt ⟨⟨_, _, _, hd2, hp2⟩, _, hs2⟩
    · refine ⟨_, rfl, _, _, _, _, rfl, rfl, SqL.of hd, at3, ?_⟩
      refine ⟨_, _, rfl, rfl, .inr (by decide), ?_⟩
      refine ⟨_, _, rfl, rfl, .inl ⟨_, rfl, ?_⟩⟩
      refine ⟨_, _, rfl, rfl, (by show (0 : Int) < _; decide), ?_⟩
      refine ⟨_, rfl, d, _, _, 3, rfl, rfl, hd, rfl, ?_⟩
      have hp2 := hp
      obtain ⟨H2, e2, hd2, hs2, bt⟩ : ∃ H2, H2 = upd H d (.lst [.ref sc, .int p, .int q0, .int ((r * 48271 + 7) % 2147483647)]) ∧ H2 d = some (.lst [.ref sc, .int p, .int q0, .int ((r * 48271 + 7) % 2147483647)]) ∧ SqL K (del H2 d) sc (xs.map V.int) ∧ But d H H2 := ⟨_, rfl, upd_same, (but_upd d H _).seq hs, but_upd d H _⟩
      have e2' : upd H d (.lst ([V.ref sc, .int p, .int q0, .int r].set 3 (.int ((r * 48271 + 7) % 2147483647)))) = H2 := e2.symm
      rw [e2']
      refine ⟨_, rfl, _, _, _, _, rfl, rfl, SqL.of hd2, at2, _, _, rfl, rfl, _, rfl, ?_⟩
      refine ifB (fun hq2 => ?_) (fun hq2 => ?_)
      · refine ⟨_, rfl, _, _, _, _, rfl, rfl, SqL.of hd2, at2, .inl ⟨_, rfl, ?_⟩⟩
        refine ⟨_, rfl, _, _, rfl, rfl, m0, ?_⟩
        refine ⟨_, rfl, _, _, _, _, rfl, rfl, SqL.of hd2, at2, ?_⟩
        refine ⟨_, rfl, _, _, rfl, rfl, ⟨m0, by omega⟩, ?_⟩
        refine ⟨_, rfl, d, _, _, 2, rfl, rfl, hd2, rfl, ?_⟩
        refine ⟨_, rfl, ?_⟩
        exact q _ _ (Int.emod_nonneg _ (by omega)) (Int.emod_lt_of_pos _ m0) (bt.trans (but_upd d _ _)) (DrawAt.set hs2 hp2 _ _)
      · refine ⟨_, rfl, _, _, _, _, rfl, rfl, SqL.of hd2, at3, ?_⟩
        refine ⟨_, _, rfl, rfl, .inr (by decide), .inl ⟨_, rfl, ?_⟩⟩
        refine ⟨_, _, rfl, rfl, (by show (0 : Int) < _; decide), ?_⟩
        refine ⟨_, rfl, _, _, rfl, rfl, m0, ?_⟩
        exact q _ _ (Int.emod_nonneg _ (by omega)) (Int.emod_lt_of_pos _ m0) bt ⟨⟨_, _, _, hd2, hp2⟩, _, hs2⟩
  · have hd2 := hd
    have hs2 := hs
    have hp2 := hp
    have bt := But.refl d H
    refine ⟨_, rfl, _, _, _, _, rfl, rfl, SqL.of hd2, at2, _, _, rfl, rfl, _, rfl, ?_⟩
    refine ifB (fun hq2 => ?_) (fun hq2 => ?_)
    · refine ⟨_, rfl, _, _, _, _, rfl, rfl, SqL.of hd2, at2, .inl ⟨_, rfl, ?_⟩⟩
      refine ⟨_, rfl, _, _, rfl, rfl, m0, ?_⟩
      refine ⟨_, rfl, _, _, _, _, rfl, rfl, SqL.of hd2, at2, ?_⟩
      refine ⟨_, rfl, _, _, rfl, rfl, ⟨m0, by omega⟩, ?_⟩
      refine ⟨_, rfl, d, _, _, 2, rfl, rfl, hd2, rfl, ?_⟩
      refine ⟨_, rfl, ?_⟩
      exact q _ _ (Int.emod_nonneg _ (by omega)) (Int.emod_lt_of_pos _ m0) (bt.trans (but_upd d _ _)) (DrawAt.set hs2 hp2 _ _)
    · refine ⟨_, rfl, _, _, _, _, rfl, rfl, SqL.of hd2, at3, ?_⟩
      refine ⟨_, _, rfl, rfl, .inr (by decide), .inl ⟨_, rfl, ?_⟩⟩
      refine ⟨_, _, rfl, rfl, (by show (0 : Int) < _; decide), ?_⟩
      refine ⟨_, rfl, _, _, rfl, rfl, m0, ?_⟩
      exact q _ _ (Int.emod_nonneg _ (by omega)) (Int.emod_lt_of_pos _ m0) bt ⟨⟨_, _, _, hd2, hp2⟩, _, hs2⟩
end
end RM

set_option Elab.async false
set_option linter.all false
set_option maxRecDepth 100000
set_option maxHeartbeats 4000000
set_option pp.maxSteps 600
set_option pp.deepTerms false
namespace RM
open PySem PySem.Spec PyProof.Rows L2
abbrev menu7 : List Str := ["a", "b", "url", "portal", "mode", "zz", "else"]
theorem menu7_ok : ∀ z ∈ menu7, isWord z = true ∧ z.length ≤ 6 := by decide +kernel
theorem drawnN {r m : Int} (h0 : 0 ≤ r) (h1 : r < m) : ∃ k : Nat, r = k ∧ (k : Int) < m := ⟨r.toNat, by omega, by omega⟩
theorem ts_but {K : PySem.W.Frag} {d sc : Addr} {H H' : Hp} (b : But d H H') (hd : Hd4 H d sc) : TS K H H' := fun a xs h => by
  obtain ⟨_, _, _, e, _⟩ := hd
  rcases h with (h | ⟨o, h⟩) | h
  · exact .inl (.inl (b.get (fun z => by rw [z, e] at h; cases h) h))
  · exact .inl (.inr ⟨o, b.get (fun z => by rw [z, e] at h; cases h) h⟩)
  · exact .inr h
theorem but_put {d a : Addr} {H H' : Hp} (b : But d H H') (ha : H a = none) (o : HO) : But d H (upd H' a o) := fun c u hc => by
  have h9 := b c u hc
  by_cases cd : c = d
  · rw [cd, del_same] at hc; cases hc
  · rw [del_ne cd] at hc h9 ⊢
    rw [upd_ne (ne_of_none hc ha)]
    exact h9
theorem sqL_ex {K : PySem.W.Frag} {H : Hp} {p a : Addr} {o o' : HO} {xs : List V} (hp : H p = some o) (n1 : ∀ ys, o ≠ .lst ys) (n2 : ∀ ob ys, o ≠ .frz ob (.lst ys)) (h : SqL K H a xs) : SqL K (upd H p o') a xs := by
  rcases h with (h | ⟨ob, h⟩) | h
  · exact .inl (.inl (by rw [upd_ne fun z => by rw [z, hp] at h; exact n1 _ (Option.some.inj h)]; exact h))
  · exact .inl (.inr ⟨ob, by rw [upd_ne fun z => by rw [z, hp] at h; exact n2 _ _ (Option.some.inj h)]; exact h⟩)
  · exact .inr h
theorem DrawAt.ex {K : PySem.W.Frag} {H : Hp} {d sc p : Addr} {o o' : HO} (h : DrawAt K H d sc) (hp : H p = some o) (n1 : ∀ ys, o ≠ .lst ys) (n2 : ∀ ob ys, o ≠ .frz ob (.lst ys)) : DrawAt K (upd H p o') d sc := by
  obtain ⟨⟨i, j, k, h1, h2⟩, xs, h3⟩ := h
  have ne : p ≠ d := fun z => by rw [z, h1] at hp; exact n1 _ (Option.some.inj hp).symm
  refine ⟨⟨i, j, k, by rw [upd_ne (Ne.symm ne)]; exact h1, h2⟩, xs, ?_⟩
  have e : del (upd H p o') d = upd (del H d) p o' := by
    funext b
    by_cases hb : b = d
    · rw [hb, del_same, upd_ne (Ne.symm ne), del_same]
    · by_cases hp' : b = p
      · rw [hp', del_ne ne, upd_same, upd_same]
      · rw [del_ne hb, upd_ne hp', upd_ne hp', del_ne hb]
  rw [e]
  exact sqL_ex (by rw [del_ne ne]; exact hp) n1 n2 h3
/-- the text keys are of the menu just when they are words -/
def MenuOk (es : List GE) : Prop := ∀ p ∈ es, ∀ z, p.2.1 = .text z → isWord z = decide (z ∈ menu7)
theorem mem_put {es : List GE} {i v : V} {k : NestedKey} {p : GE} (h : p ∈ putG es i k v) : p ∈ es ∧ p.2.1 ≠ k ∨ p = (i, k, v) ∨ ∃ q ∈ es, q.2.1 = k ∧ p = (q.1, k, v) := by
  unfold putG at h
  split at h
  · obtain ⟨q, hq, rfl⟩ := List.mem_map.mp h
    by_cases z : q.2.1 = k
    · rw [if_pos z]
      exact .inr (.inr ⟨q, hq, z, rfl⟩)
    · rw [if_neg z]
      exact .inl ⟨hq, z⟩
  · rename_i c
    rcases List.mem_append.mp h with z | z
    · exact .inl ⟨z, fun e => c (by rw [← e]; exact List.mem_map.mpr ⟨p, z, rfl⟩)⟩
    · exact .inr (.inl (List.mem_singleton.mp z))
theorem GOk.put {K : PySem.W.Frag} {H : Hp} {es : List GE} {i v : V} {k : NestedKey} (h : GOk K H es) (e : EntOk K H (i, k, v)) : GOk K H (putG es i k v) := by
  refine ⟨fun p hp => ?_, (h.okG.put (v := v) e.key).nd⟩
  rcases mem_put hp with ⟨z, _⟩ | z | ⟨q, hq, z, rfl⟩
  · exact h.1 p z
  · rw [z]; exact e
  · refine ⟨?_, e.sz, e.val⟩
    have := (h.1 q hq).key
    rw [z] at this
    exact this
theorem MenuOk.put {es : List GE} {i v : V} {k : NestedKey} (h : MenuOk es) (e : ∀ z, k = .text z → isWord z = decide (z ∈ menu7)) : MenuOk (putG es i k v) := fun p hp z hz => by
  rcases mem_put hp with ⟨y, _⟩ | y | ⟨q, hq, y, rfl⟩
  · exact h p y z hz
  · subst y; exact e z hz
  · exact e z hz
/-- the dict under way at vd -/
structure DA (K : PySem.W.Frag) (w : World) (H : Hp) (d sc vd : Addr) (es : List GE) (H1 : Hp) : Prop where
  dr : DrawAt K H1 d sc
  bt : But d H H1
  hv : H1 vd = some (gO w vd es)
  ok : GOk K H1 es
  mn : MenuOk es
section
variable {K : PySem.W.Frag} {w : World} {H H1 H2 : Hp} {d sc vd : Addr} {es : List GE}
theorem DA.but (h : DA K w H d sc vd es H1) (b : But d H1 H2) (d2 : DrawAt K H2 d sc) (nvd : vd ≠ d) : DA K w H d sc vd es H2 := ⟨d2, h.bt.trans b, b.get nvd h.hv, h.ok.keep (ts_but b h.dr.1), h.mn⟩
theorem DA.same (h : DA K w H d sc vd es H1) (e : Same H1 H2) (nvd : vd ≠ d) : DA K w H d sc vd es H2 := h.but (but_sm e) (h.dr.keep e) nvd
theorem DA.put (h : DA K w H d sc vd es H1) {i v : V} {k : NestedKey} (e : EntOk K H1 (i, k, v)) (m : ∀ z, k = .text z → isWord z = decide (z ∈ menu7)) (n0 : H vd = none) : DA K w H d sc vd (putG es i k v) (upd H1 vd (gO w vd (putG es i k v))) := by
  have ts : TS K H1 (upd H1 vd (gO w vd (putG es i k v))) := ts_upd _ h.hv trivial
  refine ⟨h.dr.ex h.hv (fun _ z => nomatch z) (fun _ _ z => nomatch z), but_put h.bt n0 _, upd_same, (h.ok.put e).keep ts, h.mn.put m⟩
end
section
variable {P : Program} {w : World} {K : PySem.W.Frag} {mg : Str → Option Value} {base : Heap}
/-! ### _law_key, _law_number -/
def spKey (K : PySem.W.Frag) : Sp := fun vs H Q _ => match vs with
  | [x] => ∃ d sc, x = .ref d ∧ DrawAt K H d sc ∧ ∀ z H', z ∈ menu7 → But d H H' → DrawAt K H' d sc → Q (.str z) H'
  | _ => False
theorem sc_law_key : FnScope ["_law_draws", "_law_menu"] ["_law_draws"] (defScope s_law_key) := ⟨rfl, rfl, rfl, by decide +kernel, rfl, by decide +kernel, by decide +kernel⟩
theorem c_law_key (T : Top w K mg) : Cal P w K mg base CX0 2 "_law_key" (spKey K) := by
  refine cal_0 (f_law_key T) (g_law_key T) sc_law_key (fun _ _ _ _ _ _ us hl => match us, hl with | [_], _ => rfl) (fun vs H Q E h => match vs, h with | [_], _ => rfl) (fun cdv A outer s H vs Q E hr h => ?_)
  match vs, h with
  | [x], h =>
  obtain ⟨d, sc, rfl, d0, q⟩ := h
  refine ⟨_, (pss_cons (ps_set (i := 1) sc_law_key.nd rfl (Or.inl rfl) (pe_lst (pa_cons pe_str (pa_cons pe_str (pa_cons pe_str (pa_cons pe_str (pa_cons pe_str (pa_cons pe_str (pa_cons pe_str pa_nil)))))))))
    (pss_one (ps_ret (pe_ix ix_list (pv 1) (pc (c_law_draw T) hr (pa_cons (pv 0) (pa_cons pe_int pa_nil))) (fun _ _ => rfl))))), ?_⟩
  refine ⟨(by show 7 ≤ sizeLine; decide), fun mn hmn => ?_⟩
  have s1 : Same H (upd H mn (.lst (menu7.map V.str))) := smNew1 hmn _
  have d1 := d0.keep s1
  have nmn : mn ≠ d := fun z => d0.1.ne (by rw [← z]; exact hmn)
  refine ⟨_, rfl, _, rfl, d, sc, 7, rfl, rfl, d1, by decide, by decide, fun t H2 t0 t1 b2 d2 => ?_⟩
  obtain ⟨t, rfl, ht⟩ := drawnN t0 t1
  have hm2 := b2.get nmn (upd_same : (upd H mn (.lst (menu7.map V.str))) mn = _)
  have htl : t < menu7.length := by show t < 7; omega
  refine ⟨mn, _, _, .str menu7[t], rfl, rfl, SqL.of hm2, atI_nat (by rw [List.getElem?_map, List.getElem?_eq_getElem htl]; rfl), ?_⟩
  exact q _ H2 (List.getElem_mem htl) ((but_sm s1).trans b2) d2
def spNum (K : PySem.W.Frag) : Sp := fun vs H Q _ => match vs with
  | [x] => ∃ d sc, x = .ref d ∧ DrawAt K H d sc ∧ ∀ n H', But d H H' → DrawAt K H' d sc → Q (.int n) H'
  | _ => False
theorem sc_law_number : FnScope ["_law_draws"] ["_law_draws"] (defScope s_law_number) := ⟨rfl, rfl, rfl, by decide +kernel, rfl, by decide +kernel, by decide +kernel⟩
theorem c_law_number (T : Top w K mg) : Cal P w K mg base CX0 2 "_law_number" (spNum K) := by
  refine cal_0 (f_law_number T) (g_law_number T) sc_law_number (fun _ _ _ _ _ _ us hl => match us, hl with | [_], _ => rfl) (fun vs H Q E h => match vs, h with | [_], _ => rfl) (fun cdv A outer s H vs Q E hr h => ?_)
  match vs, h with
  | [x], h =>
  obtain ⟨d, sc, rfl, d0, q⟩ := h
  refine ⟨_, (pss_one (ps_ret (pe_ix ix_list (pe_lst (pa_cons pe_int (pa_cons pe_int (pa_cons (pe_un un_neg pe_int) (pa_cons pe_int (pa_cons (pe_un un_neg pe_int) (pa_cons (pe_op op_sub (pc (c_law_draw T) hr (pa_cons (pv 0) (pa_cons pe_int pa_nil))) pe_int) pa_nil))))))) (pc (c_law_draw T) hr (pa_cons (pv 0) (pa_cons pe_int pa_nil))) (fun _ _ => rfl)))), ?_⟩
  refine ⟨_, rfl, _, rfl, _, rfl, d, sc, 199, rfl, rfl, d0, by decide, by decide, fun t H2 t0 t1 b2 d2 => ?_⟩
  refine ⟨_, _, rfl, rfl, (by show 6 ≤ sizeLine; decide), fun mn hmn => ?_⟩
  have s3 : Same H2 (upd H2 mn (.lst ([0, 1, -1, 99, -99, t - 99].map V.int))) := smNew1 hmn _
  have nmn : mn ≠ d := fun z => d2.1.ne (by rw [← z]; exact hmn)
  refine ⟨_, rfl, d, sc, 6, rfl, rfl, d2.keep s3, by decide, by decide, fun u H4 u0 u1 b4 d4 => ?_⟩
  obtain ⟨u, rfl, hu⟩ := drawnN u0 u1
  have hm4 := b4.get nmn (upd_same : (upd H2 mn (.lst ([0, 1, -1, 99, -99, t - 99].map V.int))) mn = _)
  have hul : u < ([0, 1, -1, 99, -99, t - 99] : List Int).length := by show u < 6; omega
  refine ⟨mn, _, _, .int ([0, 1, -1, 99, -99, t - 99] : List Int)[u], rfl, rfl, SqL.of hm4, atI_nat (by rw [List.getElem?_map, List.getElem?_eq_getElem hul]; rfl), ?_⟩
  exact q _ H4 (b2.trans ((but_sm s3).trans b4)) d4
/-! ### _law_dict -/
def spDict (K : PySem.W.Frag) (w : World) : Sp := fun vs H Q _ => match vs with
  | [x] => ∃ d sc, x = .ref d ∧ DrawAt K H d sc ∧ ∀ a es H', But d H H' → DrawAt K H' d sc → H a = none → H' a = some (gO w a es) → GOk K H' es → es.length ≤ 8 → MenuOk es → Q (.ref a) H'
  | _ => False
theorem sc_law_dict : FnScope ["_law_draws", "_law_values", "_law_k", "_law_odd"] ["_law_draws"] (defScope s_law_dict) := ⟨rfl, rfl, rfl, by decide +kernel, rfl, by decide +kernel, by decide +kernel⟩
theorem c_law_dict (T : Top w K mg) : Cal P w K mg base CX0 4 "_law_dict" (spDict K w) := by
  refine cal_0 (f_law_dict T) (g_law_dict T) sc_law_dict (fun _ _ _ _ _ _ us hl => match us, hl with | [_], _ => rfl) (fun vs H Q E h => match vs, h with | [_], _ => rfl) (fun cdv A outer s H vs Q E hr h => ?_)
  match vs, h with
  | [x], h =>
  obtain ⟨d, sc, rfl, d0, q⟩ := h
  refine ⟨_, (pss_cons (ps_set (i := 1) sc_law_dict.nd rfl (Or.inl rfl) pe_dnewK)
    (pss_cons (ps_cv (ps_for PassesOwn.never rfl (pi_range1 rfl (z_range T) (pa_cons (pc (c_law_draw T) hr (pa_cons (pv 0) (pa_cons pe_int pa_nil))) pa_nil)) (pg_name (i := 2) sc_law_dict.nd rfl (Or.inl rfl))
      (pss_one (ps_gput (room8 hr) (pv 1) (pc (c_law_key T) hr (pa_cons (pv 0) pa_nil)) (pc (c_law_number T) hr (pa_cons (pv 0) pa_nil)) rfl))))
    (pss_cons (ps_mid (ps_if (pt_cmpR op_eq (pc (c_law_draw T) hr (pa_cons (pv 0) (pa_cons pe_int pa_nil))) pe_int (nomark _))
      (pss_cons (ps_set (i := 3) sc_law_dict.nd rfl (Or.inl rfl) (pe_ix ix_list (pe_lst (pa_cons pe_str (pa_cons pe_str (pa_cons pe_str (pa_cons pe_int (pa_cons pe_non (pa_cons pe_str (pa_cons (pe_tup (pa_cons pe_str pa_nil)) pa_nil)))))))) (pc (c_law_draw T) hr (pa_cons (pv 0) (pa_cons pe_int pa_nil))) (fun _ _ => rfl)))
    (pss_one (ps_gput (room8 hr) (pv 1) (pv 3) pe_int rfl)))
      pss_nil))
    (pss_cons (ps_mid (ps_if (pt_cmpR op_eq (pc (c_law_draw T) hr (pa_cons (pv 0) (pa_cons pe_int pa_nil))) pe_int (nomark _))
      (pss_one (ps_gput (room8 hr) (pv 1) (pc (c_law_key T) hr (pa_cons (pv 0) pa_nil)) (pe_ix ix_list (pe_lst (pa_cons pe_int (pa_cons (pe_un un_neg pe_int) (pa_cons pe_bl (pa_cons pe_non (pa_cons pe_str (pa_cons (pe_tup (pa_cons pe_int pa_nil)) pa_nil))))))) (pc (c_law_draw T) hr (pa_cons (pv 0) (pa_cons pe_int pa_nil))) (fun _ _ => rfl)) rfl))
      pss_nil))
    (pss_one (ps_ret (pv 1))))))), ?_⟩
  refine fun vd hvd => ?_
  have nvd : vd ≠ d := fun z => d0.1.ne (by rw [← z]; exact hvd)
  refine ⟨_, .toG (kvs := []) upd_same (Nat.zero_le _), ?_⟩
  have s1 : But d H (upd (upd H vd (.dK [])) vd (gO w vd [])) := by
    rw [upd_upd]
    exact but_sm (smNew1 hvd _)
  have d1 : DrawAt K (upd (upd H vd (.dK [])) vd (gO w vd [])) d sc := by
    rw [upd_upd]
    exact d0.keep (smNew1 hvd _)
  refine ⟨_, rfl, d, sc, 6, rfl, rfl, d1, by decide, by decide, fun t H2 t0 t1 b2 d2 => ?_⟩
  obtain ⟨t, rfl, ht⟩ := drawnN t0 t1
  have a1 : DA K w H d sc vd [] (upd (upd H vd (.dK [])) vd (gO w vd [])) := ⟨d1, s1, upd_same, ⟨fun p hp => by simp at hp, List.nodup_nil⟩, fun p hp => by simp at hp⟩
  have a2 := a1.but b2 d2 nvd
  refine ⟨t, rfl, by omega, by omega, ?_⟩
  refine for_it (walk_range (lo := 0) (n := (t : Int).toNat)) (fun i σ H' => (∃ es, DA K w H d sc vd es H' ∧ es.length ≤ i) ∧ ∃ v2 v3, σ = [some (.ref d), some (.ref vd), v2, v3]) ⟨⟨[], a2, Nat.le_refl _⟩, _, _, rfl⟩ (fun _ _ _ _ _ => trivial) ?_ ?_
  · rintro i x σ H4 H5 hi ⟨⟨es, a4, l4⟩, v2, v3, rfl⟩ ⟨rfl, rfl⟩
    refine ⟨_, rfl, d, sc, rfl, a4.dr, fun n H6 b6 d6 => ?_⟩
    have a6 := a4.but b6 d6 nvd
    refine ⟨_, rfl, _, rfl, d, sc, rfl, d6, fun z H7 hz b7 d7 => ?_⟩
    have a7 := a6.but b7 d7 nvd
    have ez : EntOk K H7 (.str z, .text z, .int n) := ⟨.str z, fun z' e => by cases e; exact Nat.le_trans (menu7_ok z hz).2 (by decide), .inl ⟨_, rfl⟩⟩
    refine ⟨vd, es, .text z, rfl, a7.hv, a7.ok.okG, .str z, by omega, ?_⟩
    refine ⟨⟨_, a7.put ez (fun z' e => by cases e; rw [(menu7_ok z hz).1, decide_eq_true hz]) hvd, ?_⟩, _, _, rfl⟩
    have := putG_len es (.str z) (.text z) (.int n)
    omega
  · rintro σ H4 ⟨⟨es, a4, l4⟩, v2, v3, rfl⟩
    refine ⟨_, .refl, ?_⟩
    -- an odd key
    refine ⟨fun σ H' => (∃ es, DA K w H d sc vd es H' ∧ es.length ≤ 7) ∧ ∃ v2 v3, σ = [some (.ref d), some (.ref vd), v2, v3], ?_, ?_⟩
    · refine ⟨_, rfl, d, sc, 4, rfl, rfl, a4.dr, by decide, by decide, fun o1 H5 _ _ b5 d5 => ?_⟩
      have a5 := a4.but b5 d5 nvd
      refine ⟨rfl, _, rfl, ?_⟩
      by_cases c : o1 = 0
      case neg => exact ifF (dec_int.trans (beq_eq_false_iff_ne.mpr c)) ⟨⟨es, a5, by omega⟩, _, _, rfl⟩
      refine ifT (dec_int.trans (by rw [c]; rfl)) ?_
      refine ⟨(by show 1 ≤ sizeLine; decide), fun tp htp => ?_⟩
      have e6 : Same H5 (upd H5 tp (.tup [.str "a"])) := smNew1 htp _
      have a6 := a5.same e6 nvd
      refine ⟨(by show 7 ≤ sizeLine; decide), fun mn hmn => ?_⟩
      have e7 : Same (upd H5 tp (.tup [.str "a"])) (upd (upd H5 tp (.tup [.str "a"])) mn (.lst [.str "", .str "A", .str "toolong", .int 5, .non, .str "a1", .ref tp])) := smNew1 hmn _
      have a7 := a6.same e7 nvd
      have nmn : mn ≠ d := fun z => a6.dr.1.ne (by rw [← z]; exact hmn)
      have ntp : tp ≠ d := fun z => a5.dr.1.ne (by rw [← z]; exact htp)
      have ht7 := e7 _ _ (upd_same : (upd H5 tp (.tup [.str "a"])) tp = _)
      refine ⟨_, rfl, d, sc, 7, rfl, rfl, a7.dr, by decide, by decide, fun u H8 u0 u1 b8 d8 => ?_⟩
      obtain ⟨u, rfl, hu⟩ := drawnN u0 u1
      have a8 := a7.but b8 d8 nvd
      have hm8 := b8.get nmn (upd_same : (upd (upd H5 tp (.tup [.str "a"])) mn (.lst [.str "", .str "A", .str "toolong", .int 5, .non, .str "a1", .ref tp])) mn = _)
      have ht8 := b8.get ntp ht7
      have pick7 : ∃ (i : V) (k : NestedKey), EntOk K H8 (i, k, .int 1) ∧ (∀ z, k = .text z → isWord z = decide (z ∈ menu7)) ∧ ([.str "", .str "A", .str "toolong", .int 5, .non, .str "a1", .ref tp] : List V)[u]? = some i := by
        rcases (by omega : u = 0 ∨ u = 1 ∨ u = 2 ∨ u = 3 ∨ u = 4 ∨ u = 5 ∨ u = 6) with rfl | rfl | rfl | rfl | rfl | rfl | rfl
        · exact ⟨.str "", .text "", ⟨.str _, fun z e => (by cases e; decide +kernel), .inl ⟨_, rfl⟩⟩, fun z e => (by cases e; decide +kernel), rfl⟩
        · exact ⟨.str "A", .text "A", ⟨.str _, fun z e => (by cases e; decide +kernel), .inl ⟨_, rfl⟩⟩, fun z e => (by cases e; decide +kernel), rfl⟩
        · exact ⟨.str "toolong", .text "toolong", ⟨.str _, fun z e => (by cases e; decide +kernel), .inl ⟨_, rfl⟩⟩, fun z e => (by cases e; decide +kernel), rfl⟩
        · exact ⟨.int 5, .num 5, ⟨.int 5, fun z e => (nomatch e), .inl ⟨_, rfl⟩⟩, fun z e => (nomatch e), rfl⟩
        · exact ⟨.non, .none, ⟨.non, fun z e => (nomatch e), .inl ⟨_, rfl⟩⟩, fun z e => (nomatch e), rfl⟩
        · exact ⟨.str "a1", .text "a1", ⟨.str _, fun z e => (by cases e; decide +kernel), .inl ⟨_, rfl⟩⟩, fun z e => (by cases e; decide +kernel), rfl⟩
        · exact ⟨.ref tp, .tup [.text "a"], ⟨.one (SqT.of ht8), fun z e => (nomatch e), .inl ⟨_, rfl⟩⟩, fun z e => (nomatch e), rfl⟩
      obtain ⟨i, k, e, m, hi⟩ := pick7
      refine ⟨mn, _, _, i, rfl, rfl, SqL.of hm8, atI_nat hi, ?_⟩
      refine ⟨_, rfl, _, rfl, vd, es, k, rfl, a8.hv, a8.ok.okG, e.key, by omega, ⟨_, a8.put e m hvd, ?_⟩, _, _, rfl⟩
      have := putG_len es i k (.int 1)
      omega
    rintro σ H5 ⟨⟨es, a5, l5⟩, v2, v3, rfl⟩
    refine ⟨fun σ H' => (∃ es, DA K w H d sc vd es H' ∧ es.length ≤ 8) ∧ ∃ v2 v3, σ = [some (.ref d), some (.ref vd), v2, v3], ?_, ?_⟩
    · refine ⟨_, rfl, d, sc, 4, rfl, rfl, a5.dr, by decide, by decide, fun o2 H6 _ _ b6 d6 => ?_⟩
      have a6 := a5.but b6 d6 nvd
      refine ⟨rfl, _, rfl, ?_⟩
      by_cases c : o2 = 0
      case neg => exact ifF (dec_int.trans (beq_eq_false_iff_ne.mpr c)) ⟨⟨es, a6, by omega⟩, _, _, rfl⟩
      refine ifT (dec_int.trans (by rw [c]; rfl)) ?_
      refine ⟨_, rfl, (by show 1 ≤ sizeLine; decide), fun tp htp => ?_⟩
      have e7 : Same H6 (upd H6 tp (.tup [.int 1])) := smNew1 htp _
      have a7 := a6.same e7 nvd
      have ntp : tp ≠ d := fun z => a6.dr.1.ne (by rw [← z]; exact htp)
      refine ⟨(by show 6 ≤ sizeLine; decide), fun mn hmn => ?_⟩
      have nmn : mn ≠ d := fun z => a7.dr.1.ne (by rw [← z]; exact hmn)
      have e8 : Same (upd H6 tp (.tup [.int 1])) (upd (upd H6 tp (.tup [.int 1])) mn (.lst [.int 100, .int (-100), .bl true, .non, .str "1", .ref tp])) := smNew1 hmn _
      have a8 := a7.same e8 nvd
      have ht8 := e8 _ _ (upd_same : (upd H6 tp (.tup [.int 1])) tp = _)
      refine ⟨_, rfl, d, sc, 6, rfl, rfl, a8.dr, by decide, by decide, fun u H9 u0 u1 b9 d9 => ?_⟩
      obtain ⟨u, rfl, hu⟩ := drawnN u0 u1
      have a9 := a8.but b9 d9 nvd
      have hm9 := b9.get nmn (upd_same : (upd (upd H6 tp (.tup [.int 1])) mn (.lst [.int 100, .int (-100), .bl true, .non, .str "1", .ref tp])) mn = _)
      have ht9 := b9.get ntp ht8
      have pick6 : ∃ v : V, ((∃ n, v = .int n) ∨ ∃ d, Dp K H9 v d ∧ noInt d = true ∧ RM.noL d = true) ∧ ([.int 100, .int (-100), .bl true, .non, .str "1", .ref tp] : List V)[u]? = some v := by
        rcases (by omega : u = 0 ∨ u = 1 ∨ u = 2 ∨ u = 3 ∨ u = 4 ∨ u = 5) with rfl | rfl | rfl | rfl | rfl | rfl
        · exact ⟨_, .inl ⟨_, rfl⟩, rfl⟩
        · exact ⟨_, .inl ⟨_, rfl⟩, rfl⟩
        · exact ⟨_, .inr ⟨_, .bl true, rfl, rfl⟩, rfl⟩
        · exact ⟨_, .inr ⟨_, .non, rfl, rfl⟩, rfl⟩
        · exact ⟨_, .inr ⟨_, .str _, rfl, rfl⟩, rfl⟩
        · exact ⟨_, .inr ⟨.tuple [.int 1], .tup (SqT.of ht9) (.cons (.int 1) .nil), rfl, rfl⟩, rfl⟩
      obtain ⟨v, hv, hi⟩ := pick6
      refine ⟨mn, _, _, v, rfl, rfl, SqL.of hm9, atI_nat hi, ?_⟩
      refine ⟨_, rfl, _, rfl, d, sc, rfl, a9.dr, fun z H10 hz b10 d10 => ?_⟩
      have a10 := a9.but b10 d10 nvd
      have hv10 : (∃ n, v = .int n) ∨ ∃ d, Dp K H10 v d ∧ noInt d = true ∧ RM.noL d = true := hv.imp_right fun ⟨d, h1, h2, h3⟩ => ⟨d, dp_ts (ts_but b10 a9.dr.1) h1 h3, h2, h3⟩
      have ez : EntOk K H10 (.str z, .text z, v) := ⟨.str z, fun z' e => by cases e; exact Nat.le_trans (menu7_ok z hz).2 (by decide), hv10⟩
      refine ⟨vd, es, .text z, rfl, a10.hv, a10.ok.okG, .str z, by omega, ⟨_, a10.put ez (fun z' e => by cases e; rw [(menu7_ok z hz).1, decide_eq_true hz]) hvd, ?_⟩, _, _, rfl⟩
      have := putG_len es (.str z) (.text z) v
      omega
    rintro σ H7 ⟨⟨es, a7, l7⟩, v2, v3, rfl⟩
    exact ⟨_, rfl, q vd es H7 a7.bt a7.dr hvd a7.hv a7.ok l7 a7.mn⟩
end
end RM

set_option Elab.async false
set_option linter.all false
set_option maxRecDepth 100000
set_option maxHeartbeats 4000000
set_option pp.maxSteps 600
set_option pp.deepTerms false
namespace RM
open PySem PySem.Spec PyProof.Rows L2
theorem inV_texts (z : Str) (zs : List Str) : inV (.str z) (zs.map V.str) = decide (z ∈ zs) := by
  unfold inV
  rw [List.any_map, Bool.eq_iff_iff, List.any_eq_true, decide_eq_true_iff]
  constructor
  · rintro ⟨y, hy, e⟩
    have e : (y == z) = true := e
    rw [beq_iff_eq] at e
    rw [← e]
    exact hy
  · intro h
    exact ⟨z, h, beq_self_eq_true z⟩
theorem flat_texts (zs : List Str) : (zs.map V.str).all flatV = true := by
  rw [List.all_map, List.all_eq_true]
  exact fun _ _ => rfl
section
variable {P : Program} {w : World} {K : PySem.W.Frag} {mg : Str → Option Value} {base : Heap}
/-! ### _law_good -/
def spGood (K : PySem.W.Frag) (w : World) : Sp := fun vs H Q _ => match vs with
  | [x] => ∃ a es, x = .ref a ∧ H a = some (gO w a es) ∧ GOk K H es ∧ MenuOk es ∧ ∀ H', Same H H' → Q (.bl (goodG es 0)) H'
  | _ => False
theorem sc_law_good : FnScope ["_law_values", "_law_key_here", "_law_value"] ["_law_values"] (defScope s_law_good) := ⟨rfl, rfl, rfl, by decide +kernel, rfl, by decide +kernel, by decide +kernel⟩
theorem c_law_good (T : Top w K mg) : Cal P w K mg base CX0 2 "_law_good" (spGood K w) := by
  refine cal_0 (f_law_good T) (g_law_good T) sc_law_good (fun _ _ _ _ _ _ us hl => match us, hl with | [_], _ => rfl) (fun vs H Q E h => match vs, h with | [_], _ => rfl) (fun cdv A outer s H vs Q E hr h => ?_)
  match vs, h with
  | [x], h =>
  obtain ⟨a, es, rfl, ha, hg, hm, q⟩ := h
  refine ⟨_, (pss_cons (ps_if (pt_cmpR op_gt (pcb (z_len T) call_lenG boot_len (pa_cons (pv 0) pa_nil)) pe_int (nomark _))
      (pss_one (ps_ret pe_bl))
      pss_nil)
    (pss_cons (ps_lock (ps_for PassesOwn.never rfl (pi_keysG (pv 0)) (pg_name (i := 1) sc_law_good.nd rfl (Or.inl rfl))
      (pss_cons (ps_if (PW.pt (pw_or (pt_not (pt_val (pcb (z_isinstance T) call_isi boot_isinstance (pa_cons (pv 1) (pa_cons (pty (z_str T) boot_str) pa_nil))))) (pw_or1 (pt_cmpR op_notIn_seq (pv 1) (pe_lst (pa_cons pe_str (pa_cons pe_str (pa_cons pe_str (pa_cons pe_str (pa_cons pe_str (pa_cons pe_str (pa_cons pe_str pa_nil)))))))) rfl))))
      (pss_one (ps_ret pe_bl))
      pss_nil)
    (pss_cons (ps_set (i := 2) sc_law_good.nd rfl (Or.inl rfl) (pe_gget (K := K) rfl (room8 hr) (pv 0) (pv 1) (fun _ _ => rfl)))
    (pss_one (ps_if (PW.pt (pw_or (pt_not (pt_val (pcb (z_isinstance T) call_isi boot_isinstance (pa_cons (pv 2) (pa_cons (pty (z_int T) boot_int) pa_nil))))) (pw_or (pt_val (pcb (z_isinstance T) call_isi boot_isinstance (pa_cons (pv 2) (pa_cons (pty (z_bool T) boot_bool) pa_nil)))) (pw_or1 (pt_cmpR op_gt (pcb (z_abs T) call_abs boot_abs (pa_cons (pv 2) pa_nil)) pe_int (nomark _))))))
      (pss_one (ps_ret pe_bl))
      pss_nil))))))
    (pss_one (ps_ret pe_bl)))), ?_⟩
  refine ⟨_, rfl, a, es, rfl, .inl ha, _, _, rfl, rfl, _, rfl, ?_⟩
  have gd : goodG es 0 = (decide (es.length ≤ 4) && es.all rightE) := by unfold goodG; rw [decide_eq_true (Nat.zero_le _), Bool.true_and]
  by_cases c1 : es.length ≤ 4
  case neg =>
    refine ifT (decide_eq_true (show (4 : Int) < (es.length : Nat) by omega)) ?_
    have := q H (Same.refl _)
    rw [gd, decide_eq_false c1, Bool.false_and] at this
    exact this
  refine ifF (decide_eq_false (show ¬ (4 : Int) < (es.length : Nat) by omega)) ?_
  rw [decide_eq_true c1, Bool.true_and] at gd
  refine ⟨a, gO w a es, ha, trivial, fun od => ?_⟩
  have ts : TS K H (upd H a (.frz od (gO w a es))) := ts_upd _ ha trivial
  have hgL := hg.keep ts
  have noL : ∀ o' u', H a ≠ some (.frz o' u') := fun o' u' z => by rw [ha] at z; cases z
  refine ⟨_, rfl, a, od, es, rfl, upd_same, for_it walk_g_keys (fun i σ H' => Same (upd H a (.frz od (gO w a es))) H' ∧ (es.take i).all rightE = true ∧ ∃ v1 v2, σ = [some (.ref a), v1, v2]) ⟨Same.refl _, rfl, _, _, rfl⟩ (fun i σ H' _ h => h.1 _ _ upd_same) ?_ ?_⟩
  · rintro i x σ H1 H2 hi ⟨e1, hr1, v1, v2, rfl⟩ ⟨rfl, p, hp, rfl⟩
    have hmp := List.mem_of_getElem? hp
    have ep := (hgL.keep (ts_sm e1)).1 p hmp
    have hf := e1 _ _ (upd_same : (upd H a (.frz od (gO w a es))) a = _)
    have out : rightE p = false → ∀ {H3}, Same H2 H3 → H3 a = some (.frz od (gO w a es)) ∧ Q (.bl false) (upd H3 a (gO w a es)) := fun z H3 e3 => by
      have e0 : es.all rightE = false := by
        rw [List.all_eq_false]
        exact ⟨p, hmp, by rw [z]; exact Bool.false_ne_true⟩
      have := q _ (same_back ha (e1.trans e3))
      rw [gd, e0] at this
      exact ⟨e3 _ _ hf, this⟩
    obtain ⟨i0, k0, v0⟩ := p
    have hk : KeyG K H2 i0 k0 := ep.key
    have r0 := right_eq (i0, k0, v0)
    cases hk with
    | int n => exact ⟨_, rfl, _, _, _, _, false, rfl, .ty _, .base (.int n), kit_ty (by decide +kernel), _, rfl, iteT (out r0 (Same.refl _))⟩
    | non => exact ⟨_, rfl, _, _, _, _, false, rfl, .ty _, .base .non, kit_ty (by decide +kernel), _, rfl, iteT (out r0 (Same.refl _))⟩
    | @one t z ht => exact ⟨_, rfl, _, _, _, _, false, rfl, .ty _, tyT ht, kit_ty (by decide +kernel), _, rfl, iteT (out r0 (Same.refl _))⟩
    | str z =>
    have r0 : rightE (.str z, .text z, v0) = (isWord z && valE v0) := r0
    have mz : isWord z = decide (z ∈ menu7) := hm _ hmp z rfl
    refine ⟨_, rfl, _, _, _, _, true, rfl, .ty _, .base (.str z), kit_ty (by decide +kernel), _, rfl, iteF ?_⟩
    refine ⟨_, rfl, (by show 7 ≤ sizeLine; decide), fun mn hmn => ?_⟩
    have e3 : Same H2 (upd H2 mn (.lst (menu7.map V.str))) := smNew1 hmn _
    refine ⟨mn, menu7.map V.str, rfl, .inl (SqL.of upd_same), rfl, flat_texts _, _, rfl, ?_⟩
    show if (!inV (V.str z) (menu7.map V.str)) = true then _ else _
    rw [inV_texts, ← mz]
    cases ez : isWord z with
    | false =>
      rw [ez, Bool.false_and] at r0
      exact ifT rfl (out r0 e3)
    | true =>
    rw [ez, Bool.true_and] at r0
    refine ifF rfl ?_
    have hg3 := (hgL.keep (ts_sm e1)).keep (ts_sm e3)
    have hf3 := e3 _ _ hf
    refine ⟨_, rfl, _, rfl, a, es, .text z, v0, .str z, i, rfl, .inr ⟨od, hf3⟩, hg3.okG, .str z, hp, ?_⟩
    have hv0 := (hg3.1 _ hmp).val
    have hv0 : (∃ n, v0 = .int n) ∨ ∃ d, Dp K _ v0 d ∧ noInt d = true ∧ RM.noL d = true := hv0
    rcases hv0 with ⟨n, rfl⟩ | ⟨dd, hd, hn, _⟩
    · refine ⟨_, rfl, _, _, _, _, true, rfl, .ty _, .base (.int n), kit_ty (by decide +kernel), _, rfl, iteF ?_⟩
      refine ⟨_, rfl, _, _, _, _, false, rfl, .ty _, .base (.int n), kit_ty (by decide +kernel), _, rfl, iteF ?_⟩
      refine ⟨_, rfl, n, rfl, _, _, rfl, rfl, _, rfl, ?_⟩
      have r0 : rightE (.str z, .text z, .int n) = (decide (-99 ≤ n) && decide (n ≤ 99)) := r0
      by_cases c : (99 : Int) < (if n < 0 then -n else n)
      · refine ifT (decide_eq_true c) (out ?_ e3)
        rw [r0]
        by_cases z9 : n < 0
        · rw [if_pos z9] at c
          rw [decide_eq_false (by omega : ¬ -99 ≤ n)]
          rfl
        · rw [if_neg z9] at c
          rw [decide_eq_false (by omega : ¬ n ≤ 99), Bool.and_false]
      · refine ifF (decide_eq_false c) ⟨e1.trans e3, ?_, _, _, rfl⟩
        have r1 : rightE (.str z, .text z, .int n) = true := by
          rw [r0]
          by_cases z9 : n < 0
          · rw [if_pos z9] at c
            rw [decide_eq_true (by omega : -99 ≤ n), decide_eq_true (by omega : n ≤ 99)]
            rfl
          · rw [if_neg z9] at c
            rw [decide_eq_true (by omega : -99 ≤ n), decide_eq_true (by omega : n ≤ 99)]
            rfl
        rw [List.take_add_one, List.all_append, hr1, hp]
        show ([(V.str z, NestedKey.text z, V.int n)].all rightE) = true
        rw [List.all_cons, r1]
        rfl
    · have out2 := out (r0.trans (by cases hd <;> first | rfl | cases hn)) e3
      cases hd with
      | int i => cases hn
      | bl b =>
        refine ⟨_, rfl, _, _, _, _, true, rfl, .ty _, .base (.bl b), kit_ty (by decide +kernel), _, rfl, iteF ?_⟩
        exact ⟨_, rfl, _, _, _, _, true, rfl, .ty _, .base (.bl b), kit_ty (by decide +kernel), _, rfl, iteT out2⟩
      | non => exact ⟨_, rfl, _, _, _, _, false, rfl, .ty _, .base .non, kit_ty (by decide +kernel), _, rfl, iteT out2⟩
      | str y => exact ⟨_, rfl, _, _, _, _, false, rfl, .ty _, .base (.str y), kit_ty (by decide +kernel), _, rfl, iteT out2⟩
      | lst h1 _ => exact ⟨_, rfl, _, _, _, _, false, rfl, .ty _, tyL h1, kit_ty (by decide +kernel), _, rfl, iteT out2⟩
      | tup h1 _ => exact ⟨_, rfl, _, _, _, _, false, rfl, .ty _, tyT h1, kit_ty (by decide +kernel), _, rfl, iteT out2⟩
  · rintro σ H1 ⟨e1, hr1, v1, v2, rfl⟩
    rw [List.take_length] at hr1
    have hf := e1 _ _ (upd_same : (upd H a (.frz od (gO w a es))) a = _)
    refine ⟨hf, ?_⟩
    have := q _ (same_back ha e1)
    rw [gd, hr1] at this
    exact this
/-! ### _law_change -/
def spLChg (K : PySem.W.Frag) (w : World) : Sp := fun vs H Q _ => match vs with
  | [x] => ∃ a es, x = .ref a ∧ H a = some (gO w a es) ∧ GOk K H es ∧ es.length ≤ 1000 ∧
    (goodG es 0 = true → ∀ c p m2 H', Same H H' → H c = none → ChgP K H' c m2 p → m2.Perm (mOf es) → Q (.ref c) H') ∧ (goodG es 0 = false → ∀ H', Same H H' → Q .non H')
  | _ => False
theorem sc_law_change : FnScope ["_law_values", "_law_change_here"] ["_law_values"] (defScope s_law_change) := ⟨rfl, rfl, rfl, by decide +kernel, rfl, by decide +kernel, by decide +kernel⟩
theorem c_law_change (T : Top w K mg) : Cal P w K mg base CX0 8 "_law_change" (spLChg K w) := by
  refine cal_0 (f_law_change T) (g_law_change T) sc_law_change (fun _ _ _ _ _ _ us hl => match us, hl with | [_], _ => rfl) (fun vs H Q E h => match vs, h with | [_], _ => rfl) (fun cdv A outer s H vs Q E hr h => ?_)
  match vs, h with
  | [x], h =>
  obtain ⟨a, es, rfl, ha, hg, few, q, qE⟩ := h
  refine ⟨_, (pss_cons (ps_set (i := 1) sc_law_change.nd rfl (Or.inl rfl) pe_non)
    (pss_cons (ps_tryG (fun W pn xe tk => (pss_one (ps_set (i := 1) sc_law_change.nd rfl (Or.inl rfl) (pmkX tk (cx_Change_init T) hr (pa_cons (pv 0) pa_nil)))))
      (hds_cl ⟨rfl, by decide, Or.inl (g_BadValues T)⟩
      (fun a oe cls d pn hz hf => (pss_one (ps_set (i := 1) sc_law_change.nd rfl (Or.inl rfl) pe_non)))
      (hds_nil takes0)))
    (pss_one (ps_ret (pv 1))))), ?_⟩
  refine ⟨_, rfl, fun x dx hx hdx hne => ?_⟩
  have mI := mk_in (C := He.ga K "Change") hx hdx hne
  have ax : a ≠ x := ne_of_none ha hx
  refine ⟨x, dx, a, es, _, rfl, rfl, .refl, upd_same, mI _ _ ha, hg.keep (ts_sm mI), few, fun gd H' m2 pp off ca npp pm => ⟨rfl, _, rfl, q gd x pp m2 H' (mk_sm hx hdx off) hx ca pm⟩, fun gd H' off => ?_⟩
  exact ⟨true, xm_BadValues_BadValues T, ifT rfl fun y hy => ⟨_, rfl, qE gd H' (mk_sm hx hdx off)⟩⟩
/-! ### _law_sum -/
def spLSum (K : PySem.W.Frag) : Sp := fun vs H Q _ => match vs with
  | [x, y] => ∃ a b g g2, x = .ref a ∧ y = .ref b ∧ ChgAt K H a g ∧ ChgAt K H b g2 ∧
    ((wOver g g2).length ≤ 4 → ∀ p g3 pp H', Same H H' → H pp = none → ChgP K H' p g3 pp → g3.Perm (wOver g g2) → Q (.ref p) H') ∧ (4 < (wOver g g2).length → ∀ H', Same H H' → Q .non H')
  | _ => False
theorem sc_law_sum : FnScope ["_law_one", "_law_two", "_law_change_here"] ["_law_one", "_law_two"] (defScope s_law_sum) := ⟨rfl, rfl, rfl, by decide +kernel, rfl, by decide +kernel, by decide +kernel⟩
theorem c_law_sum (T : Top w K mg) : Cal P w K mg base CX0 10 "_law_sum" (spLSum K) := by
  refine cal_0 (f_law_sum T) (g_law_sum T) sc_law_sum (fun _ _ _ _ _ _ us hl => match us, hl with | [_, _], _ => rfl) (fun vs H Q E h => match vs, h with | [_, _], _ => rfl) (fun cdv A outer s H vs Q E hr h => ?_)
  match vs, h with
  | [x, y], h =>
  obtain ⟨a, b, g, g2, rfl, rfl, ca, cb, q, qE⟩ := h
  obtain ⟨⟨dx, p, ha, _⟩, _⟩ := id ca
  obtain ⟨⟨dy, p2, hb, _⟩, _⟩ := id cb
  refine ⟨_, (pss_cons (ps_set (i := 2) sc_law_sum.nd rfl (Or.inl rfl) pe_non)
    (pss_cons (ps_tryG (fun W pn xe tk => (pss_one (ps_set (i := 2) sc_law_sum.nd rfl (Or.inl rfl) (pe_opS (r := fun σ => rAddS (He.ga K "Change") (spAddC K) (WE W σ)) (fun σ => op_addSS tk (sf_Change T) (o_Change_addX T) hr σ) (pv 0) (pv 1)))))
      (hds_cl ⟨rfl, by decide, Or.inl (g_BadValues T)⟩
      (fun a oe cls d pn hz hf => (pss_one (ps_set (i := 2) sc_law_sum.nd rfl (Or.inl rfl) pe_non)))
      (hds_nil takes0)))
    (pss_one (ps_ret (pv 2))))), ?_⟩
  refine ⟨_, rfl, _, rfl, a, b, dx, dy, _, _, rfl, rfl, ha, hb, a, b, g, g2, rfl, rfl, ca, cb, fun l p3 g3 pp H' e n npp c pm => ⟨_, rfl, q l p3 g3 pp H' e npp c pm⟩, fun l H' e => ?_⟩
  exact ⟨true, xm_BadValues_BadValues T, ifT rfl fun y hy => ⟨_, rfl, qE l H' e⟩⟩
/-! ### _law_stands -/
theorem map_atJ {α β : Type} (l : List α) (f : α → β) : (List.range l.length).filterMap (fun i => (l[i]?).map f) = l.map f := by
  have := some_range (l.map f)
  rw [List.length_map] at this
  rw [← this]
  congr 1
  funext i
  rw [List.getElem?_map]
theorem strs_dpJ {H : Hp} : ∀ ks : List Str, DpAll K H (ks.map V.str) (ks.map .str)
  | [] => .nil
  | k :: ks => .cons (.str k) (strs_dpJ ks)
theorem words_lay : ∀ {ks : List Str}, (∀ k ∈ ks, isWord k = true) → PyData.canLayAll0 (ks.map .str) = true
  | [], _ => rfl
  | k :: r, h => by
    rw [List.map_cons, PyData.canLayAll0, words_lay fun x hx => h x (List.mem_cons_of_mem _ hx), Bool.and_true]
    exact word_ok (h k List.mem_cons_self)
theorem words_dep (ks : List Str) : (PyData.list (ks.map .str)).depth ≤ 2 := by
  have : PyData.depthAll (ks.map .str) ≤ 1 := by
    induction ks with
    | nil => exact Nat.zero_le _
    | cons k r ih => exact Nat.max_le.mpr ⟨Nat.zero_le _, ih⟩
  show PyData.depthAll (ks.map .str) + 1 ≤ 2
  omega
theorem words_shaped {ks : List Str} (h : ∀ k ∈ ks, isWord k = true) : SeqAt.shaped (.list (ks.map .str)) = true := by
  unfold SeqAt.shaped
  rw [show (PyData.list (ks.map .str)).canLay0 = true from words_lay h, decide_eq_true (by have := words_dep ks; omega)]
  rfl
def spLStands (K : PySem.W.Frag) : Sp := fun vs H Q _ => match vs with
  | [x, y] => ∃ a b m g p, x = .ref a ∧ y = .ref b ∧ ChgP K H a m p ∧ H b = some (.dK (mK g)) ∧ p ≠ b ∧ okM g ∧ m.Perm g ∧ ("lost" : Str) ∉ wKeys g ∧ ∀ H', Same H H' → Q (.bl true) H'
  | _ => False
theorem sc_law_stands : FnScope ["_law_change_here", "_law_values", "_law_settings", "_law_key_here"] ["_law_change_here", "_law_values"] (defScope s_law_stands) := ⟨rfl, rfl, rfl, by decide +kernel, rfl, by decide +kernel, by decide +kernel⟩
theorem c_law_stands (T : Top w K mg) : Cal P w K mg base CX0 4 "_law_stands" (spLStands K) := by
  refine cal_0 (f_law_stands T) (g_law_stands T) sc_law_stands (fun _ _ _ _ _ _ us hl => match us, hl with | [_, _], _ => rfl) (fun vs H Q E h => match vs, h with | [_, _], _ => rfl) (fun cdv A outer s H vs Q E hr h => ?_)
  match vs, h with
  | [x, y], h =>
  obtain ⟨a, b, m, g, p, rfl, rfl, ca, hb, pb, okg, pm, lost, q⟩ := h
  refine ⟨_, (pss_cons (ps_set (i := 2) sc_law_stands.nd rfl (Or.inl rfl) (pmt0 (c_Change_settings T) hr (pv 0)))
    (pss_cons (ps_if (PW.pt (pw_or (pt_cmpR (op_neD (room64 hr)) (pe_lock (pe_lc (own := [("_law_key_here", 3)]) rfl sc_law_stands.nd (pi_keys (pv 2)) (blkOk_by (own := [("_law_key_here", 3)]) (N := ["_law_change_here", "_law_values", "_law_settings", "_law_key_here"]) (sc := defScope s_law_stands) (by decide +kernel)) (fun _ _ _ _ _ => (pg_name (i := 3) sc_law_stands.nd rfl (Or.inl rfl) (Or.inr rfl))) (fun _ _ _ _ _ => pts_nil) (fun _ _ _ _ _ => (pv 3)))) (pcb (z_sorted T) (call_sortedD rfl) boot_sorted (pa_cons (pv 1) pa_nil)) (nomark _)) (pw_or (pt_cmpR (op_neW (room8 hr)) (pv 2) (pv 1) (nomark _)) (pw_or1 (pt_cmpR op_ne (pcb (z_len T) (call_lenO (E := E0) (o_Change_len T) (fun _ _ _ _ _ _ _ h => h.elim) hr) boot_len (pa_cons (pv 0) pa_nil)) (pcb (z_len T) call_lenD boot_len (pa_cons (pv 1) pa_nil)) (nomark _))))))
      (pss_one (ps_ret pe_bl))
      pss_nil)
    (pss_cons (ps_if (PW.pt (pw_or (pt_not (pt_val (pcb (z_all T) (cr_all rfl) boot_all (pa_cons (pe_lock (pe_lc (own := [("_law_key_here", 3)]) rfl sc_law_stands.nd (pi_keys (pv 1)) (blkOk_by (own := [("_law_key_here", 3)]) (N := ["_law_change_here", "_law_values", "_law_settings", "_law_key_here"]) (sc := defScope s_law_stands) (by decide +kernel)) (fun _ _ _ _ _ => (pg_name (i := 3) sc_law_stands.nd rfl (Or.inl rfl) (Or.inr rfl))) (fun _ _ _ _ _ => pts_nil) (fun _ _ _ _ _ => (pe_cmpR (op_inO (E := E0) (o_Change_contains T) (fun _ _ _ _ _ _ _ h => h.elim) hr) (pv 3) (pv 0) rfl)))) pa_nil)))) (pw_or1 (pt_cmpR (op_inO (E := E0) (o_Change_contains T) (fun _ _ _ _ _ _ _ h => h.elim) hr) pe_str (pv 0) rfl))))
      (pss_one (ps_ret pe_bl))
      pss_nil)
    (pss_one (ps_ret (pe_cmpR op_eq (pct (z_bool T) (call_boolO (E := E0) (o_Change_bool T) (fun _ _ _ _ _ _ _ h => h.elim) hr) boot_bool (pa_cons (pv 0) pa_nil)) (pe_cmpR op_gt (pcb (z_len T) call_lenD boot_len (pa_cons (pv 1) pa_nil)) pe_int (nomark _)) (nomark _))))))), ?_⟩
  obtain ⟨dx, ha, hp, okm, sm, l4⟩ := id ca
  have ab : a ≠ b := fun z => by rw [z, hb] at ha; cases ha
  have nv : (wKeys g).Nodup := okg.2
  have lg : (wKeys g).length = g.length := List.length_map ..
  have lm : (wKeys m).length = m.length := List.length_map ..
  have lmg := pm.length_eq
  have km : (mK m).length = m.length := List.length_map ..
  have kg : (mK g).length = g.length := List.length_map ..
  refine ⟨_, rfl, a, dx, _, rfl, ha, rfl, a, m, rfl, ca.at', fun sd H1 e1 nsd hsd => ?_⟩
  have nsdK : sd ≠ a := fun z => by rw [z, ha] at nsd; cases nsd
  -- the list of the keys
  refine ⟨sd, .dK (mK m), hsd, trivial, fun od => ?_⟩
  refine ⟨_, rfl, sd, od, rfl, .inl ⟨mK m, upd_same, fun D nD => ?_⟩⟩
  refine lc_opt walk_keys (fun (k : Str) y _ => y = .str k) (fun i => (wKeys m)[i]?) nD (small1000 (by omega)) (fun H' e => e _ _ upd_same) (fun _ _ _ _ h _ => h) (fun _ _ _ _ _ h _ => h) ?_ ?_
  · rintro i x H2 H3 N hi e ⟨rfl, k, v, hk, rfl⟩ hk2 _
    obtain ⟨z, hz, rfl, rfl⟩ := mK_get hk
    exact ⟨rfl, yesI ⟨_, rfl, hk2 _ _ z.1 (by unfold wKeys; rw [List.getElem?_map, hz]; rfl) (Same.refl _) rfl⟩⟩
  intro H2 ys2 e2 hD2 hp2
  rw [km, ← lm, some_range] at hp2
  have hys := paired_eq hp2
  subst hys
  have hf2 := e2 _ _ (upd_same : (upd H1 sd (.frz od (.dK (mK m)))) sd = _)
  have Dsd : D ≠ sd := fun z => by rw [z, hf2] at hD2; cases hD2
  have s3 : Same H1 (upd H2 sd (.dK (mK m))) := same_back hsd e2
  refine ⟨hf2, ?_⟩
  have hD3 : (upd H2 sd (.dK (mK m))) D = some (.lst ((wKeys m).map V.str)) := by rw [upd_ne Dsd]; exact hD2
  have hb3 := s3 _ _ (e1 _ _ hb)
  refine ⟨_, rfl, b, mK g, wKeys g, rfl, .of hb3, by unfold mK wKeys; rw [List.map_map, List.map_map]; rfl, by omega, fun ys nm hperm hsort hnm => ?_⟩
  have eys : ys = wKeys m := pw_one (sorted_pw hsort) (sorted_pw sm) (hperm.nodup_iff.mpr nv) okm.2 fun k => by rw [hperm.mem_iff]; exact (List.Perm.map (fun q : Str × Int => q.1) pm).mem_iff.symm
  rw [eys]
  have s4 : Same (upd H2 sd (.dK (mK m))) (upd (upd H2 sd (.dK (mK m))) nm (.lst ((wKeys m).map V.str))) := smNew1 hnm _
  have wm : ∀ k ∈ wKeys m, isWord k = true := fun k hk => by
    obtain ⟨z, hz, rfl⟩ := List.mem_map.mp hk
    exact (okm.1 z hz).1
  refine ⟨.list ((wKeys m).map .str), .list ((wKeys m).map .str), .lst (SqL.of (s4 _ _ hD3)) (strs_dpJ _), .lst (SqL.of upd_same) (strs_dpJ _), words_shaped wm, words_shaped wm, _, rfl, ?_⟩
  rw [SeqAt.eqv_refl _ (show (PyData.list ((wKeys m).map .str)).canLay0 = true from words_lay wm)]
  refine iteF ?_
  have sL := s3.trans s4
  obtain ⟨H4, eH4⟩ : ∃ H4, H4 = upd (upd H2 sd (.dK (mK m))) nm (.lst ((wKeys m).map V.str)) := ⟨_, rfl⟩
  rw [← eH4] at sL ⊢
  have hsd4 : H4 sd = some (.dK (mK m)) := by rw [eH4]; exact s4 _ _ upd_same
  have hb4 := sL _ _ (e1 _ _ hb)
  have sa4 : Same H H4 := e1.trans sL
  have ca4 := ca.keep sa4
  refine ⟨_, rfl, _, rfl, sd, b, m, g, rfl, rfl, hsd4, hb4, _, rfl, ?_⟩
  rw [show (if true = true then !sameW m g else sameW m g) = false by rw [if_pos rfl, sameW_self pm okm.2]; rfl]
  refine iteF ?_
  refine ⟨_, rfl, a, dx, _, rfl, sa4 _ _ ha, a, m, rfl, ca4.at', _, rfl, by omega, by omega, ?_⟩
  refine ⟨_, rfl, b, mK g, rfl, hb4, ?_⟩
  rw [kg, lmg]
  refine ⟨rfl, _, rfl, ?_⟩
  refine ifF (by rw [decide_eq_true rfl]; rfl) ?_
  -- all(..)
  refine ⟨b, .dK (mK g), hb4, trivial, fun od2 => ?_⟩
  have caL : ChgP K (upd H4 b (.frz od2 (.dK (mK g)))) a m p := ca4.upd ab pb
  obtain ⟨_, haL, _⟩ := id caL
  refine ⟨_, rfl, b, od2, rfl, .inl ⟨mK g, upd_same, fun D2 nD2 => ?_⟩⟩
  have kin : ∀ k, k ∈ wKeys g ↔ k ∈ wKeys m := fun k => (List.Perm.map (fun q : Str × Int => q.1) pm).mem_iff.symm
  refine lc_opt walk_keys (fun (v : Bool) y _ => y = .bl v) (fun i => ((wKeys g)[i]?).map fun _ => true) nD2 (small1000 (by omega)) (fun H' e => e _ _ upd_same) (fun _ _ _ _ h _ => h) (fun _ _ _ _ _ h _ => h) ?_ ?_
  · rintro i x H5 H6 N hi e ⟨rfl, k, v, hk, rfl⟩ hk2 _
    obtain ⟨z, hz, rfl, rfl⟩ := mK_get hk
    have hzk : (wKeys g)[i]? = some z.1 := by unfold wKeys; rw [List.getElem?_map, hz]; rfl
    have ca6 := caL.keep e
    obtain ⟨dx6, ha6, _⟩ := id ca6
    refine ⟨rfl, yesI ⟨_, rfl, _, rfl, a, dx6, _, rfl, ha6, a, m, z.1, rfl, rfl, ca6.at', _, rfl, ?_⟩⟩
    refine hk2 _ _ true (by rw [hzk]; rfl) (Same.refl _) ?_
    rw [decide_eq_true ((kin _).mp (List.mem_of_getElem? hzk))]
    rfl
  intro H5 ys5 e5 hD5 hp5
  rw [kg, ← lg, map_atJ] at hp5
  have hys := paired_eq hp5
  have hf5 := e5 _ _ (upd_same : (upd H4 b (.frz od2 (.dK (mK g)))) b = _)
  have Db : D2 ≠ b := fun z => by rw [z, hf5] at hD5; cases hD5
  have s6 : Same H4 (upd H5 b (.dK (mK g))) := same_back hb4 e5
  refine ⟨hf5, D2, _, rfl, SqL.of (by rw [upd_ne Db, hD5, hys]), _, rfl, ?_⟩
  rw [show ((wKeys g).map fun _ => true).all id = true by simp]
  refine iteF ?_
  have sa6 := sa4.trans s6
  have ca7 := ca.keep sa6
  have lost2 : ("lost" : Str) ∉ wKeys m := fun z => lost ((kin _).mpr z)
  refine ⟨_, rfl, a, dx, _, rfl, sa6 _ _ ha, a, m, _, rfl, rfl, ca7.at', _, rfl, _, rfl, ?_⟩
  rw [decide_eq_false lost2]
  refine ifF rfl ?_
  refine ⟨_, rfl, a, dx, _, rfl, sa6 _ _ ha, a, m, rfl, ca7.at', _, rfl, ?_⟩
  refine ⟨_, rfl, b, mK g, rfl, sa6 _ _ hb, _, _, rfl, rfl, rfl, ?_⟩
  rw [kg, lmg.symm]
  have ebl : decide (V.bl (!m.isEmpty) = V.bl (decide ((0 : Int) < (m.length : Nat)))) = true := by
    rw [decide_eq_true_iff]
    cases m with
    | nil => rfl
    | cons q r =>
      rw [decide_eq_true (by rw [List.length_cons]; omega)]
      rfl
  rw [ebl]
  exact q _ sa6
end
end RM

set_option Elab.async false
set_option linter.all false
set_option maxRecDepth 100000
set_option maxHeartbeats 4000000
set_option pp.maxSteps 600
set_option pp.deepTerms false
namespace RM
open PySem PySem.Spec PyProof.Rows L2
theorem wGet_lenJ {m g : WM} (hm : (wKeys m).Nodup) (hg : (wKeys g).Nodup) (h : ∀ k, wGet m k = wGet g k) : m.Perm g := by
  have mem : ∀ k, k ∈ wKeys m ↔ k ∈ wKeys g := fun k => by
    have := h k
    constructor
    · intro hk
      refine Decidable.byContradiction fun hn => ?_
      rw [wGet_none.mpr hn] at this
      exact wGet_none.mp this hk
    · intro hk
      refine Decidable.byContradiction fun hn => ?_
      rw [wGet_none.mpr hn] at this
      exact wGet_none.mp this.symm hk
  have pk : (wKeys m).Perm (wKeys g) := (List.perm_ext_iff_of_nodup hm hg).mpr mem
  rw [w_ext hm, w_ext hg]
  refine (pk.map _).trans ?_
  rw [List.map_congr_left fun k _ => by rw [h k]]
theorem perm_overJ {m vm g c : WM} (pm : m.Perm vm) (pg : g.Perm c) (nv : (wKeys vm).Nodup) (nc : (wKeys c).Nodup) : (wOver m g).Perm (wOver vm c) := by
  have nm : (wKeys m).Nodup := (List.Perm.map (fun q : Str × Int => q.1) pm).nodup_iff.mpr nv
  have ng : (wKeys g).Nodup := (List.Perm.map (fun q : Str × Int => q.1) pg).nodup_iff.mpr nc
  refine wGet_lenJ (nodup_over nm _) (nodup_over nv _) fun k => ?_
  rw [wGet_over ng, wGet_over nc, wGet_perm nv pm, wGet_perm nc pg]
theorem keys_overJ {m g : WM} (ng : (wKeys g).Nodup) {k : Str} (h : k ∈ wKeys (wOver m g)) : k ∈ wKeys m ∨ k ∈ wKeys g := by
  refine Decidable.byContradiction fun hn => ?_
  have h1 : k ∉ wKeys m := fun z => hn (.inl z)
  have h2 : k ∉ wKeys g := fun z => hn (.inr z)
  have e := wGet_over (m := m) ng k
  rw [wGet_none.mpr h1, wGet_none.mpr h2] at e
  exact wGet_none.mp e h
theorem lost_no {K : PySem.W.Frag} {H : Hp} {es : List GE} (g : GOk K H es) (m : MenuOk es) (r : es.all rightE = true) : ("lost" : Str) ∉ wKeys (mOf es) := by
  obtain ⟨e0, ok⟩ := mOf_ok g r
  intro h
  obtain ⟨q, hq, e⟩ := List.mem_map.mp h
  have hw := (ok.1 q hq).1
  have hp : (V.str q.1, NestedKey.text q.1, V.int q.2) ∈ es := by
    rw [e0]
    exact List.mem_map.mpr ⟨_, List.mem_map.mpr ⟨q, hq, rfl⟩, rfl⟩
  have := m _ hp q.1 rfl
  rw [hw, e] at this
  exact absurd (of_decide_eq_true this.symm) (by decide +kernel)
section
variable {P : Program} {w : World} {K : PySem.W.Frag} {mg : Str → Option Value} {base : Heap}
def spLaw (K : PySem.W.Frag) : Sp := fun vs H Q _ => match vs with
  | [x] => ∃ (a : Addr) (xs : List Int), x = .ref a ∧ SqL K H a (xs.map V.int) ∧ ∀ H', Q (.bl true) H'
  | _ => False
/-- what _law_change leaves -/
def LeftC (K : PySem.W.Frag) (H0 H : Hp) (es : List GE) (v : V) : Prop := (goodG es 0 = true ∧ ∃ c p m, v = .ref c ∧ ChgP K H c m p ∧ H0 c = none ∧ m.Perm (mOf es)) ∨ (goodG es 0 = false ∧ v = .non)
theorem sc_law : FnScope ["_law_script", "_law_draws", "_law_one", "_law_two", "_law_first", "_law_second", "_law_both", "_law_key_here", "_law_added", "_law_kept", "_law_settings"] ["_law_script"] (defScope s_law) := ⟨rfl, rfl, rfl, by decide +kernel, rfl, by decide +kernel, by decide +kernel⟩
theorem b_law (T : Top w K mg) : Body0 P w K mg base ["_law_script", "_law_draws", "_law_one", "_law_two", "_law_first", "_law_second", "_law_both", "_law_key_here", "_law_added", "_law_kept", "_law_settings"] "law" s_law (He.ga K "law") 22 (spLaw K) := by
  intro cdv A outer s H0 vs Q E hr h
  match vs, h with
  | [x], h =>
  obtain ⟨a0, xs, rfl, ha, q⟩ := h
  refine ⟨_, (pss_cons (ps_set (i := 1) sc_law.nd rfl (Or.inl rfl) (pc (c_law_begin T) hr (pa_cons (pv 0) pa_nil)))
    (pss_cons (ps_set (i := 2) sc_law.nd rfl (Or.inl rfl) (pc (c_law_dict T) hr (pa_cons (pv 1) pa_nil)))
    (pss_cons (ps_set (i := 3) sc_law.nd rfl (Or.inl rfl) (pc (c_law_dict T) hr (pa_cons (pv 1) pa_nil)))
    (pss_cons (ps_mid (ps_set (i := 4) sc_law.nd rfl (Or.inl rfl) (pc (c_law_change T) hr (pa_cons (pv 2) pa_nil))))
    (pss_cons (ps_mid (ps_set (i := 5) sc_law.nd rfl (Or.inl rfl) (pc (c_law_change T) hr (pa_cons (pv 3) pa_nil))))
    (pss_cons (ps_if (PW.pt (pw_or (pt_cmpR op_ne (pe_cmp (pc_notN (pv 4)) rfl) (pc (c_law_good T) hr (pa_cons (pv 2) pa_nil)) (nomark _)) (pw_or1 (pt_cmpR op_ne (pe_cmp (pc_notN (pv 5)) rfl) (pc (c_law_good T) hr (pa_cons (pv 3) pa_nil)) (nomark _)))))
      (pss_one (ps_ret pe_bl))
      pss_nil)
    (pss_cons (ps_if (PW.pt (pw_or (pt_cmp (pc_isN (pv 4)) rfl) (pw_or1 (pt_cmp (pc_isN (pv 5)) rfl))))
      (pss_one (ps_ret pe_bl))
      pss_nil)
    (pss_cons (ps_cv (ps_if (PW.pt (pw_or (pt_not (pt_val (pc (c_law_stands T) hr (pa_cons (pv 4) (pa_cons (pv 2) pa_nil))))) (pw_or (pt_not (pt_val (pc (c_law_stands T) hr (pa_cons (pv 5) (pa_cons (pv 3) pa_nil))))) (pw_or1 (pt_cmpR op_ne (pe_cmpR (op_ownEq (o_Change_eqW T) hr) (pv 4) (pv 5) (nomark _)) (pe_cmpR (op_eqW (room8 hr)) (pv 2) (pv 3) (nomark _)) (nomark _))))))
      (pss_one (ps_ret pe_bl))
      pss_nil))
    (pss_cons (ps_set (i := 6) sc_law.nd rfl (Or.inl rfl) (pct (z_dict T) call_dictD boot_dict (pa_cons (pv 2) pa_nil)))
    (pss_cons (ps_lock (ps_for PassesOwn.never rfl (pi_keys (pv 3)) (pg_name (i := 7) sc_law.nd rfl (Or.inl rfl))
      (pss_one (ps_dput (hu_of hr) (pv 6) (pv 7) (pe_dget (hu_of hr) (pv 3) (pv 7) (fun _ _ => rfl)) rfl))))
    (pss_cons (ps_mid (ps_set (i := 8) sc_law.nd rfl (Or.inl rfl) (pc (c_law_sum T) hr (pa_cons (pv 4) (pa_cons (pv 5) pa_nil)))))
    (pss_cons (ps_mid (ps_if (PW.pt (pw_or (pt_cmpR op_ne (pe_cmp (pc_notN (pv 8)) rfl) (pe_cmpR op_le (pcb (z_len T) call_lenD boot_len (pa_cons (pv 6) pa_nil)) pe_int (nomark _)) (nomark _)) (pw_or1 (PW.pt (pw_and (pt_cmp (pc_notN (pv 8)) rfl) (pw_and1 (pt_not (pt_val (pc (c_law_stands T) hr (pa_cons (pv 8) (pa_cons (pv 6) pa_nil)))))))))))
      (pss_one (ps_ret pe_bl))
      pss_nil))
    (pss_cons (ps_set (i := 9) sc_law.nd rfl (Or.inl rfl) (pct (z_dict T) call_dictD boot_dict (pa_cons (pv 2) pa_nil)))
    (pss_cons (ps_dput (hu_of hr) (pv 2) pe_str pe_int rfl)
    (pss_cons (ps_set (i := 10) sc_law.nd rfl (Or.inl rfl) (pmt0 (c_Change_settings T) hr (pv 4)))
    (pss_cons (ps_dput (hu_of hr) (pv 10) pe_str pe_int rfl)
    (pss_one (ps_ret (pe_and (pc (c_law_stands T) hr (pa_cons (pv 4) (pa_cons (pv 9) pa_nil))) (pe_one (pc (c_law_stands T) hr (pa_cons (pv 5) (pa_cons (pv 3) pa_nil))))))))))))))))))))))), ?_⟩
  refine ⟨_, rfl, a0, xs, rfl, ha, fun d sc H1 s1 nd da => ?_⟩
  refine ⟨_, rfl, d, sc, rfl, da, fun a1 es1 H2 b2 d2 n1 h1 g1 l1 k1 => ?_⟩
  refine ⟨_, rfl, d, sc, rfl, d2, fun a2 es2 H3 b3 d3 n2 h2 g2 l2 k2 => ?_⟩
  have hd4 := d2.1
  have a1d : a1 ≠ d := fun z => by
    obtain ⟨_, _, _, e, _⟩ := hd4
    rw [z, e] at h1
    cases h1
  have a12 : a1 ≠ a2 := fun z => by rw [← z, h1] at n2; cases n2
  have h13 := b3.get a1d h1
  have g13 := g1.keep (ts_but b3 d2.1)
  refine ⟨fun σ H => Same H3 H ∧ ∃ v, σ = [some (.ref a0), some (.ref d), some (.ref a1), some (.ref a2), some v, none, none, none, none, none, none] ∧ LeftC K H3 H es1 v, ?_, ?_⟩
  · exact ⟨_, rfl, a1, es1, rfl, h13, g13, by omega, fun gd p p2 m2 H' e n cp pm => ⟨e, _, rfl, .inl ⟨gd, p, p2, m2, rfl, cp, n, pm⟩⟩, fun gd H' e => ⟨e, _, rfl, .inr ⟨gd, rfl⟩⟩⟩
  rintro σ H4 ⟨e4, v, rfl, lc1⟩
  refine ⟨fun σ H => Same H4 H ∧ ∃ u, σ = [some (.ref a0), some (.ref d), some (.ref a1), some (.ref a2), some v, some u, none, none, none, none, none] ∧ LeftC K H4 H es2 u, ?_, ?_⟩
  · exact ⟨_, rfl, a2, es2, rfl, e4 _ _ h2, g2.keep (ts_sm e4), by omega, fun gd p p2 m2 H' e n cp pm => ⟨e, _, rfl, .inl ⟨gd, p, p2, m2, rfl, cp, n, pm⟩⟩, fun gd H' e => ⟨e, _, rfl, .inr ⟨gd, rfl⟩⟩⟩
  rintro σ H5 ⟨e5, u, rfl, lc2⟩
  have e35 := e4.trans e5
  have h15 := e35 _ _ h13
  have h25 := e35 _ _ h2
  have g15 := g13.keep (ts_sm e35)
  have g25 := g2.keep (ts_sm e35)
  rcases lc1 with ⟨gd1, c1, p1, m1, rfl, cp1, nc1, pm1⟩ | ⟨gd1, rfl⟩
  case inr =>
    refine ⟨_, rfl, _, rfl, a1, es1, rfl, h15, g15, k1, fun H6 e6 => ?_⟩
    rw [gd1]
    refine ⟨rfl, _, rfl, iteF ?_⟩
    rcases lc2 with ⟨gd2, c2, p2, m2, rfl, cp2, nc2, pm2⟩ | ⟨gd2, rfl⟩
    · refine ⟨_, rfl, _, rfl, a2, es2, rfl, e6 _ _ h25, g25.keep (ts_sm e6), k2, fun H7 e7 => ?_⟩
      rw [gd2]
      exact ⟨rfl, _, rfl, ifF rfl ⟨_, rfl, _, rfl, iteT (q _)⟩⟩
    · refine ⟨_, rfl, _, rfl, a2, es2, rfl, e6 _ _ h25, g25.keep (ts_sm e6), k2, fun H7 e7 => ?_⟩
      rw [gd2]
      exact ⟨rfl, _, rfl, ifF rfl ⟨_, rfl, _, rfl, iteT (q _)⟩⟩
  refine ⟨_, rfl, _, rfl, a1, es1, rfl, h15, g15, k1, fun H6 e6 => ?_⟩
  rw [gd1]
  refine ⟨rfl, _, rfl, iteF ?_⟩
  rcases lc2 with ⟨gd2, c2, p2, m2, rfl, cp2, nc2, pm2⟩ | ⟨gd2, rfl⟩
  case inr =>
    refine ⟨_, rfl, _, rfl, a2, es2, rfl, e6 _ _ h25, g25.keep (ts_sm e6), k2, fun H7 e7 => ?_⟩
    rw [gd2]
    exact ⟨rfl, _, rfl, ifF rfl ⟨_, rfl, _, rfl, iteF ⟨_, rfl, _, rfl, ifT rfl (q _)⟩⟩⟩
  refine ⟨_, rfl, _, rfl, a2, es2, rfl, e6 _ _ h25, g25.keep (ts_sm e6), k2, fun H7 e7 => ?_⟩
  rw [gd2]
  refine ⟨rfl, _, rfl, ifF rfl ⟨_, rfl, _, rfl, iteF ⟨_, rfl, _, rfl, ifF rfl ?_⟩⟩⟩
  -- both are right
  have e57 := e6.trans e7
  have h17 := e57 _ _ h15
  have h27 := e57 _ _ h25
  have r1 : es1.all rightE = true := by have := gd1; unfold goodG at this; rw [Bool.and_eq_true] at this; exact this.2
  have r2 : es2.all rightE = true := by have := gd2; unfold goodG at this; rw [Bool.and_eq_true] at this; exact this.2
  obtain ⟨ee1, ok1⟩ := mOf_ok g15 r1
  obtain ⟨ee2, ok2⟩ := mOf_ok g25 r2
  have lost1 := lost_no g15 k1 r1
  have lost2 := lost_no g25 k2 r2
  obtain ⟨w1, ew1⟩ : ∃ w1, w1 = mOf es1 := ⟨_, rfl⟩
  obtain ⟨w2, ew2⟩ : ∃ w2, w2 = mOf es2 := ⟨_, rfl⟩
  have lw1 : w1.length ≤ 4 := by rw [ew1, mOf_len ee1]; have := gd1; unfold goodG at this; rw [Bool.and_eq_true, Bool.and_eq_true] at this; exact of_decide_eq_true this.1.2
  have lw2 : w2.length ≤ 4 := by rw [ew2, mOf_len ee2]; have := gd2; unfold goodG at this; rw [Bool.and_eq_true, Bool.and_eq_true] at this; exact of_decide_eq_true this.1.2
  rw [← ew1] at ok1 lost1 pm1
  rw [← ew2] at ok2 lost2 pm2
  have h17k : H7 a1 = some (gO w a1 (ofK (mK w1))) := by rw [ew1, ← ee1]; exact h17
  have h27k : (upd H7 a1 (.dK (mK w1))) a2 = some (gO w a2 (ofK (mK w2))) := by rw [upd_ne (Ne.symm a12), ew2, ← ee2]; exact h27
  have cp17 := (cp1.keep e5).keep e57
  have cp27 := cp2.keep e57
  have off : ∀ {c p a : Addr} {m : WM} {es : List GE}, ChgP K H7 c m p → H7 a = some (gO w a es) → c ≠ a ∧ p ≠ a := fun {c p a m es} cp ha => by
    obtain ⟨_, x1, x2, _⟩ := cp
    exact ⟨fun z => (by rw [z, ha] at x1; cases x1), fun z => (by rw [z, ha] at x2; cases x2)⟩
  obtain ⟨o1, o2⟩ := off cp17 h17
  obtain ⟨o3, o4⟩ := off cp17 h27
  obtain ⟨o5, o6⟩ := off cp27 h17
  obtain ⟨o7, o8⟩ := off cp27 h27
  refine ⟨_, .two (.toK h17k (mK_nd ok1)) (.toK h27k (mK_nd ok2)), ?_⟩
  obtain ⟨H8, eH8⟩ : ∃ H8, H8 = upd (upd H7 a1 (.dK (mK w1))) a2 (.dK (mK w2)) := ⟨_, rfl⟩
  rw [← eH8]
  have h18 : H8 a1 = some (.dK (mK w1)) := by rw [eH8, upd_ne a12]; exact upd_same
  have h28 : H8 a2 = some (.dK (mK w2)) := by rw [eH8]; exact upd_same
  have cp18 : ChgP K H8 c1 m1 p1 := by rw [eH8]; exact (cp17.upd o1 o2).upd o3 o4
  have cp28 : ChgP K H8 c2 m2 p2 := by rw [eH8]; exact (cp27.upd o5 o6).upd o7 o8
  refine ⟨_, rfl, _, rfl, c1, a1, m1, w1, p1, rfl, rfl, cp18, h18, o2, ok1, pm1, lost1, fun H9 e9 => ⟨_, rfl, iteF ?_⟩⟩
  refine ⟨_, rfl, _, rfl, c2, a2, m2, w2, p2, rfl, rfl, cp28.keep e9, e9 _ _ h28, o8, ok2, pm2, lost2, fun H10 e10 => ⟨_, rfl, iteF ?_⟩⟩
  have e80 := e9.trans e10
  obtain ⟨dx1, hc1, _⟩ := id (cp18.keep e80)
  obtain ⟨dx2, hc2, _⟩ := id (cp28.keep e80)
  refine ⟨_, rfl, _, rfl, c1, c2, dx1, dx2, _, _, rfl, rfl, hc1, hc2, c1, c2, m1, m2, rfl, rfl, (cp18.keep e80).at', (cp28.keep e80).at', ?_⟩
  refine ⟨_, rfl, _, rfl, a1, a2, w1, w2, rfl, rfl, e80 _ _ h18, e80 _ _ h28, ?_⟩
  have esame : sameW m1 m2 = sameW w1 w2 := sameW_perm pm1 pm2 ok2.2
  rw [esame]
  refine ⟨rfl, _, rfl, ifF ?_ ?_⟩
  · rw [show (if false = true then !sameW w1 w2 else sameW w1 w2) = sameW w1 w2 from rfl, decide_eq_true rfl]
    rfl
  refine ⟨_, .refl, ?_⟩
  -- both = dict(one)
  have h1A := e80 _ _ h18
  have h2A := e80 _ _ h28
  refine ⟨_, rfl, a1, mK w1, rfl, .of h1A, fun bd hbd => ?_⟩
  have sB : Same H10 (upd H10 bd (.dK (mK w1))) := smNew1 hbd _
  have h2B := sB _ _ h2A
  have b2d : a2 ≠ bd := ne_of_none h2A hbd
  have kw2 : (mK w2).length = w2.length := List.length_map ..
  refine ⟨a2, .dK (mK w2), h2B, trivial, fun od => ?_⟩
  refine ⟨_, rfl, a2, od, rfl, .inl ⟨mK w2, upd_same, for_it walk_keys (fun i σ H' => Off bd (upd (upd H10 bd (.dK (mK w1))) a2 (.frz od (.dK (mK w2)))) H' ∧ H' bd = some (.dK (mK (wOver w1 (w2.take i)))) ∧
    ∃ v7, σ = [some (.ref a0), some (.ref d), some (.ref a1), some (.ref a2), some (.ref c1), some (.ref c2), some (.ref bd), v7, none, none, none])
    ⟨fun b u _ hu => hu, by rw [upd_ne (Ne.symm b2d)]; exact upd_same, _, rfl⟩ (fun i σ H' _ h => h.1 _ _ b2d upd_same) ?_ ?_⟩⟩
  · rintro i x σ H11 H12 hi ⟨of1, hb1, v7, rfl⟩ ⟨rfl, k, v, hk, rfl⟩
    obtain ⟨z, hz, rfl, rfl⟩ := mK_get hk
    have hm := List.mem_of_getElem? hz
    refine ⟨_, rfl, _, rfl, a2, .int z.2, rfl, .inl ⟨mK w2, .inr z.1, .inr ⟨od, of1 _ _ b2d upd_same⟩, rfl, (valV_mK ok2.2 z hm).symm⟩, ?_⟩
    refine ⟨_, rfl, _, rfl, bd, _, rfl, .inl ⟨mK (wOver w1 (w2.take i)), .inr z.1, hb1, rfl, small1000 ?_, rfl⟩, ?_⟩
    · unfold mK
      rw [List.length_map]
      have := wOver_len w1 (w2.take i)
      rw [List.length_take] at this
      omega
    · refine ⟨fun b u hb hu => by rw [upd_ne hb]; exact of1 _ _ hb hu, ?_, _, rfl⟩
      rw [upd_same, putK_w, List.take_add_one, hz]
      unfold wOver
      rw [List.foldl_append]
      rfl
  rintro σ H11 ⟨of1, hb1, v7, rfl⟩
  rw [kw2, List.take_length] at hb1
  have hf1 := of1 _ _ b2d (upd_same : (upd (upd H10 bd (.dK (mK w1))) a2 (.frz od (.dK (mK w2)))) a2 = _)
  refine ⟨hf1, ?_⟩
  have sE : Same H10 (upd H11 a2 (.dK (mK w2))) := fun b u hu => by
    by_cases z : b = a2
    · rw [z, upd_same, ← hu, z, h2A]
    · rw [upd_ne z]
      exact of1 _ _ (ne_of_none hu hbd) (by rw [upd_ne z]; exact sB _ _ hu)
  have hbE : (upd H11 a2 (.dK (mK w2))) bd = some (.dK (mK (wOver w1 w2))) := by rw [upd_ne (Ne.symm b2d)]; exact hb1
  obtain ⟨HE, eHE⟩ : ∃ HE, HE = upd H11 a2 (.dK (mK w2)) := ⟨_, rfl⟩
  rw [← eHE] at sE hbE ⊢
  have s8E := e80.trans sE
  have pO : (wOver m1 m2).Perm (wOver w1 w2) := perm_overJ pm1 pm2 ok1.2 ok2.2
  have okO : okM (wOver w1 w2) := okM_over ok1 ok2.1
  have lostO : ("lost" : Str) ∉ wKeys (wOver w1 w2) := fun z => (keys_overJ ok2.2 z).elim lost1 lost2
  have kO : (mK (wOver w1 w2)).length = (wOver w1 w2).length := List.length_map ..
  refine ⟨fun σ H => Same HE H ∧ ∃ v8, σ = [some (.ref a0), some (.ref d), some (.ref a1), some (.ref a2), some (.ref c1), some (.ref c2), some (.ref bd), v7, some v8, none, none] ∧
    (((wOver w1 w2).length ≤ 4 ∧ ∃ c3 m3 p3, v8 = .ref c3 ∧ ChgP K H c3 m3 p3 ∧ p3 ≠ bd ∧ m3.Perm (wOver w1 w2)) ∨ (4 < (wOver w1 w2).length ∧ v8 = .non)), ?_, ?_⟩
  · refine ⟨_, rfl, _, rfl, c1, c2, m1, m2, rfl, rfl, (cp18.keep s8E).at', (cp28.keep s8E).at', fun l c3 m3 p3 H' e np cp pm => ⟨e, _, rfl, .inl ⟨by rw [← pO.length_eq]; exact l, c3, m3, p3, rfl, cp, fun z => (by rw [z, hbE] at np; cases np), pm.trans pO⟩⟩, fun l H' e => ⟨e, _, rfl, .inr ⟨by rw [← pO.length_eq]; exact l, rfl⟩⟩⟩
  rintro σ H12 ⟨e12, v8, rfl, h8⟩
  have hb12 := e12 _ _ hbE
  refine ⟨fun σ H => Same HE H ∧ ∃ v8, σ = [some (.ref a0), some (.ref d), some (.ref a1), some (.ref a2), some (.ref c1), some (.ref c2), some (.ref bd), v7, v8, none, none], ?_, ?_⟩
  · refine ⟨_, rfl, _, rfl, bd, mK (wOver w1 w2), rfl, hb12, ?_⟩
    rw [kO]
    rcases h8 with ⟨l8, c3, m3, p3, rfl, cp3, pb3, pm3⟩ | ⟨l8, rfl⟩
    · refine ⟨_, _, rfl, rfl, rfl, _, rfl, ifF (by show (!decide (V.bl true = V.bl (decide ((((wOver w1 w2).length : Nat) : Int) ≤ 4)))) = false; rw [decide_eq_true (show (((wOver w1 w2).length : Nat) : Int) ≤ 4 by omega)]; rfl) ?_⟩
      refine ⟨_, rfl, _, rfl, iteT ?_⟩
      refine ⟨_, rfl, _, rfl, c3, bd, m3, wOver w1 w2, p3, rfl, rfl, cp3, hb12, pb3, okO, pm3, lostO, fun H13 e13 => ⟨_, rfl, ifF rfl ?_⟩⟩
      exact ⟨e12.trans e13, _, rfl⟩
    · refine ⟨_, _, rfl, rfl, rfl, _, rfl, ifF (by show (!decide (V.bl false = V.bl (decide ((((wOver w1 w2).length : Nat) : Int) ≤ 4)))) = false; rw [decide_eq_false (show ¬ (((wOver w1 w2).length : Nat) : Int) ≤ 4 by omega)]; rfl) ?_⟩
      exact ⟨_, rfl, _, rfl, iteF ⟨e12, _, rfl⟩⟩
  rintro σ H13 ⟨e13, v8, rfl⟩
  -- what is changed later
  have s8K := s8E.trans e13
  have h1K := s8K _ _ h18
  refine ⟨_, rfl, a1, mK w1, rfl, .of h1K, fun kd hkd => ?_⟩
  have sK : Same H13 (upd H13 kd (.dK (mK w1))) := smNew1 hkd _
  have hk1 : (upd H13 kd (.dK (mK w1))) kd = some (.dK (mK w1)) := upd_same
  have cpK1 := (cp18.keep s8K).keep sK
  have cpK2 := (cp28.keep s8K).keep sK
  have h1L := sK _ _ h1K
  have h2L := sK _ _ (s8K _ _ h28)
  have k1ne : kd ≠ a1 := fun z => by rw [z, h1K] at hkd; cases hkd
  have k2ne : kd ≠ a2 := fun z => by rw [z, s8K _ _ h28] at hkd; cases hkd
  obtain ⟨_, xk1, xk2, _⟩ := id cpK1
  obtain ⟨_, yk1, yk2, _⟩ := id (cp18.keep s8K)
  have pk : p1 ≠ kd := ne_of_none yk2 hkd
  refine ⟨_, rfl, a1, _, rfl, .inl ⟨mK w1, .inr "late", h1L, rfl, small1000 (by unfold mK; rw [List.length_map]; omega), rfl⟩, ?_⟩
  rw [putK_w]
  obtain ⟨HL, eHL⟩ : ∃ HL, HL = upd (upd H13 kd (.dK (mK w1))) a1 (.dK (mK (wPut w1 "late" 1))) := ⟨_, rfl⟩
  have cpL1 : ChgP K HL c1 m1 p1 := by rw [eHL]; exact cpK1.upd o1 o2
  have cpL2 : ChgP K HL c2 m2 p2 := by rw [eHL]; exact cpK2.upd o5 o6
  have hkL : HL kd = some (.dK (mK w1)) := by rw [eHL, upd_ne k1ne]; exact hk1
  have h2M : HL a2 = some (.dK (mK w2)) := by rw [eHL, upd_ne (Ne.symm a12)]; exact h2L
  rw [← eHL]
  obtain ⟨dxL, hcL, _⟩ := id cpL1
  refine ⟨_, rfl, c1, dxL, _, rfl, hcL, rfl, c1, m1, rfl, cpL1.at', fun sd H14 e14 nsd hsd => ?_⟩
  refine ⟨_, rfl, sd, _, rfl, .inl ⟨mK m1, .inr "late", hsd, rfl, small1000 (by unfold mK; rw [List.length_map]; have := pm1.length_eq; omega), rfl⟩, ?_⟩
  rw [putK_w]
  have s15 : Same HL (upd H14 sd (.dK (mK (wPut m1 "late" 2)))) := fun b u hu => by
    rw [upd_ne (ne_of_none hu nsd)]
    exact e14 _ _ hu
  refine ⟨_, rfl, _, rfl, c1, kd, m1, w1, p1, rfl, rfl, cpL1.keep s15, s15 _ _ hkL, pk, ok1, pm1, lost1, fun H16 e16 => ?_⟩
  refine ⟨_, rfl, ifT rfl ?_⟩
  exact ⟨_, rfl, _, rfl, c2, a2, m2, w2, p2, rfl, rfl, (cpL2.keep s15).keep e16, e16 _ _ (s15 _ _ h2M), o8, ok2, pm2, lost2, fun H17 _ => q _⟩
end
end RM

set_option Elab.async false
set_option linter.all false
set_option maxRecDepth 100000
set_option maxHeartbeats 0
namespace RM
open PySem PySem.Spec PyProof.Rows L2
theorem law_ok {P : Program} {w : World} {K : PySem.W.Frag} {mg : Str → Option Value} {base : Heap} {fd : FuncData} (T : Top w K mg)
    (F : FunD K "law" "law" (defArgs s_law) (defBody s_law) (defScope s_law) [] [] (He.ga K "law") fd) : FnOk P w K mg base CX0 23 (He.ga K "law") fd ["_law_script"] (spLaw K) :=
  fn_0 F sc_law (fun vs H Q E h => match vs, h with | [_], _ => rfl) (b_law T)
end RM
open PySem PySem.W PySem.Calls PyProof.Rows
theorem PySem.Challenge.cw_readmoments_k01_changes_as_values_holds : PySem.Challenge.rw_readmoments_k01_changes_as_values.Holds := by
  w_on; o_law
  refine HandSHeadRun.head_any (r := OpenLaw.row PySem.Challenge.rw_readmoments_k01_changes_as_values) (q := view (OpenLaw.row PySem.Challenge.rw_readmoments_k01_changes_as_values).prog [23]) (H := RM.hk) (ob := RM.ob) (M := 9000) (loose := RM.names)
    (d := HandSHeadRun.topDef (OpenLaw.row PySem.Challenge.rw_readmoments_k01_changes_as_values).prog 23) (kwd := []) RM.ob_eq
    (by kernel_rfl) (fun s => by kernel_rfl) RM.run (by kernel_rfl) (by kernel_rfl) (by kernel_rfl) (by rfl) (by first | assumption | decide +kernel) (by decide +kernel) ⟨rfl, rfl, rfl, rfl, rfl, by decide +kernel⟩ ?hw ?hc
  case hw => w_witness2
  case hc =>
    refine L2.walk_ofE (l := PySem.Challenge.rw_readmoments_k01_changes_as_values) (n := 63) (k := 23) (x := "_law_script") (CX := L2.CX0) rfl (by decide) (by kernel_rfl) ⟨rfl, by decide, by decide⟩ ?F (fun _ _ _ _ z => z)
    intro w mg fa h Y G hmg0
    have hmg : mg ("law" : PySem.Str) = some (.ref fa) := by
      have e : (HandSHeadRun.topDef (OpenLaw.row PySem.Challenge.rw_readmoments_k01_changes_as_values).prog 23).name = ("law" : PySem.Str) := by kernel_rfl
      rw [← e]
      exact hmg0
    obtain ⟨K, KX, c⟩ := Y
    have T : RM.Top w K mg := ⟨h, KX, G, c⟩
    obtain ⟨fd, F⟩ := RM.f_law T
    have e := hmg.symm.trans (RM.g_law T)
    cases e
    have b := L2.FunD.bindsA (ps := ["_law_script"]) F fun _ _ _ _ _ _ us hl => match us, hl with | [_], _ => rfl
    exact ⟨K, fd, RM.spLaw K, KX, fun s v => b s [v] rfl, fun H a ns hl _ hS => ⟨a, ns, rfl, hS, fun _ => rfl⟩, fun base _ _ => RM.law_ok T F⟩

