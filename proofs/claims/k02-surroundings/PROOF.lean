import PyProof.Rows.All
import Wide.All
import OpenK.AllK
import Wide.FinOn
import HandS.ForMost
import HandS.Exc
import HandS.WordsExc
import HandS.TryMany
import HandS.ExcInit
import HandS.ExcField
import HandS.Defaults
import HandS.IsInst
import HandS.OwnEq
import HandS.DictComp
import HandS.SetKeys
import HandS.Walk
import HandS.Flow
import HandS.Conv
import HandS.TupAny
import HandS.Zip
import HandS.Style
import HandS.HeadHook1
import HandS.HeadHook2
import HandS.HeadHook3
import HandS.HeadHook4
import KE.GoesNew
import KE.GoesEnum
import HandS.SetBool
import HandS.SetFor
import HandS.SetTxt0
import PyProof.Rows.SortShellAny
import KE.KOpsOwn
import PyProof.InstNe
import KE.KStateDown
import HandS.Head0
import HandS.Head1
import HandS.Head2
import HandS.HeadEnd
import KE.KDictList
import KE.KDictSum
import PyProof.TupleOfGen
import KE.KDictZip
import KE.GoesMore
import PyProof.EqAt
import HandS.TupSets
import HandS.Deep
import HandS.More
import PySem.Challenge.RW_readmoments_k02_whole_surroundings
set_option Elab.async false
set_option linter.all false
set_option maxRecDepth 100000
set_option maxHeartbeats 2000000
namespace RM
open PySem PySem.Spec PyProof.Rows L2

/-! ### calls by promise -/
section
variable (P : Program) (w : World) (K : PySem.W.Frag) (mg : Str → Option Value) (base : Heap) (CX : CXT)
/-- a def by its global name -/
def Cal (k : Nat) (x : Str) (sp : Sp) : Prop :=
  ∃ (f : Addr) (fd : FuncData) (ps : List Str), FnOk P w K mg base CX k f fd ps sp ∧ mg x = some (.ref f) ∧ PySem.W.keepIn K (.ref f) = true ∧ Binds K fd ps []
/-- the class at C: its method m -/
def Met (k : Nat) (C : Addr) (m : Str) (sp : Sp) : Prop :=
  ∃ (f : Addr) (fd : FuncData) (ps : List Str), Cls K C ∧ Meth K C m f ∧ FnOk P w K mg base CX k f fd ps sp ∧ Binds K fd ps []
/-- a class that is made by its name; sp: its __init__ -/
def Mak (k : Nat) (x : Str) (C : Addr) (sp : Sp) : Prop :=
  ∃ (f : Addr) (fd : FuncData) (ps : List Str), Mk K C f ∧ FnOk P w K mg base CX k f fd ps sp ∧ mg x = some (.ref C) ∧ Binds K fd ps []
end
section
variable {P : Program} {w : World} {K : PySem.W.Frag} {mg : Str → Option Value} {base : Heap} {CX : CXT} {k : Nat} {x m : Str} {C : Addr} {sp : Sp}
theorem Cal.mono {j : Nat} (c : Cal P w K mg base CX j x sp) (h : j ≤ k) : Cal P w K mg base CX k x sp := let ⟨f, fd, ps, F, a, b, d⟩ := c; ⟨f, fd, ps, F.mono h, a, b, d⟩
theorem Met.mono {j : Nat} (c : Met P w K mg base CX j C m sp) (h : j ≤ k) : Met P w K mg base CX k C m sp := let ⟨f, fd, ps, a, b, F, d⟩ := c; ⟨f, fd, ps, a, b, F.mono h, d⟩
theorem Mak.mono {j : Nat} (c : Mak P w K mg base CX j x C sp) (h : j ≤ k) : Mak P w K mg base CX k x C sp := let ⟨f, fd, ps, a, F, b, d⟩ := c; ⟨f, fd, ps, a, F.mono h, b, d⟩
theorem Cal.imp {sp' : Sp} (c : Cal P w K mg base CX k x sp) (h : ∀ vs H Q E, sp' vs H Q E → sp vs H Q E) : Cal P w K mg base CX k x sp' := let ⟨f, fd, ps, F, a, b, d⟩ := c; ⟨f, fd, ps, F.imp h, a, b, d⟩
theorem Met.imp {sp' : Sp} (c : Met P w K mg base CX k C m sp) (h : ∀ vs H Q E, sp' vs H Q E → sp vs H Q E) : Met P w K mg base CX k C m sp' := let ⟨f, fd, ps, a, b, F, d⟩ := c; ⟨f, fd, ps, a, b, F.imp h, d⟩
/-- nothing leaves by an error: the body's form -/
def Body0 (P : Program) (w : World) (K : PySem.W.Frag) (mg : Str → Option Value) (base : Heap) (N : List Str) (qual : Str) (st : Stmt) (f : Addr) (k : Nat) (sp : Sp) : Prop :=
  ∀ (cdv : Value) (A : Around) (outer : List Env) (s : Shared) (H : Hp) (vs : List V) (Q : VK) (E : XK), Room k (A.deeper (envOfC qual (defScope st) s.heap.objs.size f cdv)) → sp vs H Q E →
    ∃ t, PSs (cxOf CX0 P w K mg base N qual (defScope st) f cdv A outer s H E).nox (defBody st) t ∧ t { nx := fun _ H' => Q .non H', rt := Q } (start N vs) H
theorem fn_0 {qual : Str} {st : Stmt} {f : Addr} {fd : FuncData} {N ps : List Str} (F : FunD K x qual (defArgs st) (defBody st) (defScope st) [] [] f fd) (S : FnScope N ps (defScope st))
    (len : ∀ vs H Q E, sp vs H Q E → vs.length = ps.length) (h : Body0 P w K mg base N qual st f k sp) : FnOk P w K mg base CX0 (k + 1) f fd ps sp :=
  F.ok S len fun cdv A outer s H vs Q E hr hsp => let ⟨t, a, b⟩ := h cdv A outer s H vs Q E hr hsp; ⟨t, a.nox, b⟩
theorem cal_0 {st : Stmt} {f : Addr} {N ps : List Str} (F : ∃ fd, FunD K x x (defArgs st) (defBody st) (defScope st) [] [] f fd) (hm : mg x = some (.ref f)) (S : FnScope N ps (defScope st))
    (hb : ∀ (kV doc pm : Value) (an : Option Addr) (cdv ct : Value) (us : List Value), us.length = ps.length → bindArgs (PySem.W.fnOf x x (defArgs st) (defBody st) (defScope st) .none kV doc pm an cdv ct) ⟨us, []⟩ = pure (ps.zip us))
    (len : ∀ vs H Q E, sp vs H Q E → vs.length = ps.length) (h : Body0 P w K mg base N x st f k sp) : Cal P w K mg base CX0 (k + 1) x sp :=
  let ⟨fd, F⟩ := F
  ⟨f, fd, ps, fn_0 F S len h, hm, F.kp, F.bindsN hb⟩
theorem cal_never {x : Str} {st : Stmt} {f : Addr} {ps : List Str} {sp : Sp} {k : Nat} (F : ∃ fd, FunD K x x (defArgs st) (defBody st) (defScope st) [] [] f fd) (hm : mg x = some (.ref f))
    (hb : ∀ (kV doc pm : Value) (an : Option Addr) (cdv ct : Value) (us : List Value), us.length = ps.length → bindArgs (PySem.W.fnOf x x (defArgs st) (defBody st) (defScope st) .none kV doc pm an cdv ct) ⟨us, []⟩ = pure (ps.zip us))
    (no : ∀ vs H Q E, ¬ sp vs H Q E) : Cal P w K mg base CX0 k x sp :=
  let ⟨fd, F⟩ := F
  ⟨f, fd, ps, ⟨fun vs H Q E h => absurd h (no vs H Q E), fun A outer s H args us vs Q E _ _ _ _ h => absurd h (no vs H Q E)⟩, hm, F.kp, F.bindsN hb⟩
theorem met_0 {qual : Str} {st : Stmt} {f : Addr} {N ps : List Str} (F : ∃ fd, FunD K m qual (defArgs st) (defBody st) (defScope st) [] [] f fd) (c : Cls K C) (me : Meth K C m f) (S : FnScope N ps (defScope st))
    (hb : ∀ (kV doc pm : Value) (an : Option Addr) (cdv ct : Value) (us : List Value), us.length = ps.length → bindArgs (PySem.W.fnOf m qual (defArgs st) (defBody st) (defScope st) .none kV doc pm an cdv ct) ⟨us, []⟩ = pure (ps.zip us))
    (len : ∀ vs H Q E, sp vs H Q E → vs.length = ps.length) (h : Body0 P w K mg base N qual st f k sp) : Met P w K mg base CX0 (k + 1) C m sp :=
  let ⟨fd, F⟩ := F
  ⟨f, fd, ps, c, me, fn_0 F S len h, F.bindsN hb⟩
theorem mak_0 {qual : Str} {st : Stmt} {f : Addr} {N ps : List Str} (F : ∃ fd, FunD K "__init__" qual (defArgs st) (defBody st) (defScope st) [] [] f fd) (M : Mk K C f) (hm : mg x = some (.ref C)) (S : FnScope N ps (defScope st))
    (hb : ∀ (kV doc pm : Value) (an : Option Addr) (cdv ct : Value) (us : List Value), us.length = ps.length → bindArgs (PySem.W.fnOf "__init__" qual (defArgs st) (defBody st) (defScope st) .none kV doc pm an cdv ct) ⟨us, []⟩ = pure (ps.zip us))
    (len : ∀ vs H Q E, sp vs H Q E → vs.length = ps.length) (h : Body0 P w K mg base N qual st f k sp) : Mak P w K mg base CX0 (k + 1) x C sp :=
  let ⟨fd, F⟩ := F
  ⟨f, fd, ps, M, fn_0 F S len h, hm, F.bindsN hb⟩
end
section
variable {X : Cx} {CX : CXT} {k j : Nat} {C : Addr} {x m : Str} {sp : Sp} {E : XK} {p pos apos : Pos} {e o : Expr} {es : List Expr} {ta : TE} {t : TA}
theorem pc (c : Cal X.prog X.w X.K X.mg X.base CX0 k x sp) (hr : Room j X.A) (ha : PA X (e :: es) t) (hk : k ≤ j := by omega) (hg : Gl X x := by rfl)
    (hpl : (backTo pos (starEach es X.env)).any (·.1) = false := by rfl) (he : starEach (e :: es) X.env = (false, eval e X.env) :: starEach es X.env := by rfl) (hdb : (x == ("__debug__" : Str)) = false := by decide) :
    PE X (.Call (.Name x p) (e :: es) [] pos) (tCall sp [] E0 t) := by
  obtain ⟨f, fd, ps, F, hm, kp, b⟩ := c
  exact pe_call F (hr.mono hk) hg hm kp b .nil pass0 ha hdb he hpl
theorem pc0 (c : Cal X.prog X.w X.K X.mg X.base CX0 k x sp) (hr : Room j X.A) (hk : k ≤ j := by omega) (hg : Gl X x := by rfl)
    (hdb : (x == ("__debug__" : Str)) = false := by decide) :
    PE X (.Call (.Name x p) [] [] pos) (tCall sp [] E0 tNil) := by
  obtain ⟨f, fd, ps, F, hm, kp, b⟩ := c
  exact pe_call0 F (hr.mono hk) hg hm kp b .nil pass0 hdb
theorem pmk (c : Mak X.prog X.w X.K X.mg X.base CX0 k x C sp) (hr : Room j X.A) (ha : PA X (e :: es) t) (hk : k + 1 ≤ j := by omega) (hg : Gl X x := by rfl)
    (hpl : (backTo pos (starEach es X.env)).any (·.1) = false := by rfl) (he : starEach (e :: es) X.env = (false, eval e X.env) :: starEach es X.env := by rfl) (hdb : (x == ("__debug__" : Str)) = false := by decide) :
    PE X (.Call (.Name x p) (e :: es) [] pos) (tMake C sp [] E0 t) := by
  obtain ⟨f, fd, ps, M, F, hm, b⟩ := c
  exact pe_make M F (hr.mono hk) hg hm b .nil pass0 ha hdb he hpl
theorem pmt {pl : Sem Bool} (c : Met X.prog X.w X.K X.mg X.base CX0 k C m sp) (hr : Room j X.A) (he : PE X o ta) (ha : PA X (e :: es) t) (hk : k ≤ j := by omega)
    (hst : starEach (e :: es) X.env = (false, eval e X.env) :: starEach es X.env := by rfl) (hpl : (backTo pos (starEach es X.env)).any (·.1) = false := by rfl)
    (ht : eval (.Call (.Attribute o m apos) (e :: es) [] pos) X.env = (do
      let ov ← eval o X.env
      standAt apos.atName
      let (f, first) ← holding [ov] (getMethod ov m pl)
      callWith pos f first (backTo pos (starEach (e :: es) X.env)) (backToKw pos (keywordEach [] X.env))) := by rfl) :
    PE X (.Call (.Attribute o m apos) (e :: es) [] pos) (tMeth C m sp [] E0 ta t) := by
  obtain ⟨f, fd, ps, hc, hm, F, b⟩ := c
  exact pe_meth (pl := pl) he hc hm F (hr.mono hk) b .nil pass0 ha hst hpl ht
theorem pmt0 {pl : Sem Bool} (c : Met X.prog X.w X.K X.mg X.base CX0 k C m sp) (hr : Room j X.A) (he : PE X o ta) (hk : k ≤ j := by omega)
    (ht : eval (.Call (.Attribute o m apos) [] [] pos) X.env = (do
      let ov ← eval o X.env
      standAt apos.atName
      let (f, first) ← holding [ov] (getMethod ov m pl)
      callWith pos f first (backTo pos (starEach [] X.env)) (backToKw pos (keywordEach [] X.env))) := by rfl) :
    PE X (.Call (.Attribute o m apos) [] [] pos) (tMeth C m sp [] E0 ta tNil) := by
  obtain ⟨f, fd, ps, hc, hm, F, b⟩ := c
  exact pe_meth0 (pl := pl) he hc hm F (hr.mono hk) b .nil pass0 ht
/-- a module's constant, told by what mg says -/
theorem pgl {v : V} {u : Value} (hm : X.mg x = some u) (r : RelV v u) (hg : Gl X x := by rfl) (hd : (x == ("__debug__" : Str)) = false := by decide) : PE X (.Name x p) (tC v) := pe_glob hg hm r hd
theorem pglR {a : Addr} (hm : X.mg x = some (.ref a)) (hg : Gl X x := by rfl) (hd : (x == ("__debug__" : Str)) = false := by decide) : PE X (.Name x p) (tC (.ref a)) := pe_glob hg hm rfl hd
theorem pglI {i : Int} (hm : ∃ t, X.mg x = some (.int i t)) (hg : Gl X x := by rfl) (hd : (x == ("__debug__" : Str)) = false := by decide) : PE X (.Name x p) (tC (.int i)) := let ⟨t, h⟩ := hm; pe_glob hg h ⟨t, rfl⟩ hd
theorem pglS {z : Str} (hm : ∃ t, X.mg x = some (.str z t)) (hg : Gl X x := by rfl) (hd : (x == ("__debug__" : Str)) = false := by decide) : PE X (.Name x p) (tC (.str z)) := let ⟨t, h⟩ := hm; pe_glob hg h ⟨t, rfl⟩ hd
/-- a built-in class as a value -/
theorem pty {n : String} (hm : X.mg x = none) (hv : bootBuiltins x = some (.type n)) (hg : Gl X x := by rfl) (hn : x ≠ "__name__" := by decide) (hd : (x == ("__debug__" : Str)) = false := by decide) : PE X (.Name x p) (tC (.ty n)) := pe_bltn hg hm hv rfl hn hd
/-- a built-in function, a built-in class, called -/
theorem pcb {id : String} {r : List V → Hp → VK → Prop} (hm : X.mg x = none) (hc : CallR X (.builtin id) r) (hv : bootBuiltins x = some (.builtin id)) (ha : PA X (e :: es) t) (hg : Gl X x := by rfl) (hn : x ≠ "__name__" := by decide) (hdb : (x == ("__debug__" : Str)) = false := by decide)
    (he : starEach (e :: es) X.env = (false, eval e X.env) :: starEach es X.env := by rfl) (hpl : (backTo pos (starEach es X.env)).any (·.1) = false := by rfl) : PE X (.Call (.Name x p) (e :: es) [] pos) (tCB r t) := pe_callB hc hg hm hv ha hn hdb he hpl
theorem pct {T : String} {r : List V → Hp → VK → Prop} (hm : X.mg x = none) (hc : CallR X (.type T) r) (hv : bootBuiltins x = some (.type T)) (ha : PA X (e :: es) t) (hg : Gl X x := by rfl) (hn : x ≠ "__name__" := by decide) (hdb : (x == ("__debug__" : Str)) = false := by decide)
    (he : starEach (e :: es) X.env = (false, eval e X.env) :: starEach es X.env := by rfl) (hpl : (backTo pos (starEach es X.env)).any (·.1) = false := by rfl) : PE X (.Call (.Name x p) (e :: es) [] pos) (tCB r t) := pe_callTy hc hg hm hv ha hn hdb he hpl
end
/-! ### the rules whose readings name the written part: K told apart (for a comprehension's block) -/
section
variable {X : Cx} {K : PySem.W.Frag} {e o : Expr} {es : List Expr} {ta : TE} {t : TA} {pos : Pos}
theorem pg_tup' {k : Nat} {t : TGs} {n : Nat} (hK : X.K = K) (hc : X.calm = true) (h : PGs X es t)
    (hn : (assignEach es X.env).length = n) (hst : (assignEach es X.env).findIdx? (·.1) = none) : PG X (.Tuple es k pos) (gTup K n t) := by
  subst hK
  exact pg_tup hc h hn hst
theorem ix_tup' (hK : X.K = K) : IxR X (rIxT K) := by subst hK; exact ix_tup
theorem ix_list' (hK : X.K = K) : IxR X (rIxL K) := by subst hK; exact ix_list
theorem call_isi' (hK : X.K = K) : CallR X (.builtin "isinstance") (rIsi K) := by subst hK; exact call_isi
theorem call_isiT' (hK : X.K = K) : CallR X (.builtin "isinstance") (rIsiT K) := by subst hK; exact call_isiT
theorem call_len_seq' (hK : X.K = K) : CallR X (.builtin "len") (fun xs H Q => ∃ p ys, xs = [.ref p] ∧ (SqL K H p ys ∨ SqT K H p ys) ∧ Q (.int ys.length) H) := by subst hK; exact call_len_seq
theorem ix_kdict' {w : World} (hK : X.K = K) (hw : X.w = w) : IxR X (rIxD K w) := by subst hK hw; exact ix_kdict
theorem pe_fld' {f : Str} (hK : X.K = K) (he : PE X e ta) (hb : attributeBase e f X.env (eval e X.env) = eval e X.env) : PE X (.Attribute e f pos) (tFld K ta f) := by subst hK; exact pe_fld he hb
end
/-! ### places -/
theorem at0 {v : V} {xs : List V} : atI (v :: xs) 0 = some v := atI_nat (j := 0) rfl
theorem at1 {a v : V} {xs : List V} : atI (a :: v :: xs) 1 = some v := atI_nat (j := 1) rfl
theorem at2 {a b v : V} {xs : List V} : atI (a :: b :: v :: xs) 2 = some v := atI_nat (j := 2) rfl
theorem at3 {a b c v : V} {xs : List V} : atI (a :: b :: c :: v :: xs) 3 = some v := atI_nat (j := 3) rfl
theorem at4 {a b c d v : V} {xs : List V} : atI (a :: b :: c :: d :: v :: xs) 4 = some v := atI_nat (j := 4) rfl
theorem yesI {σ : L2.St} {H : Hp} {X Y : Hp → Prop} (h : X H) : tYes σ H (fun b H3 => if b = true then X H3 else Y H3) := by
  show if true = true then X H else Y H
  rw [if_pos rfl]
  exact h
/-! ### ifs -/
theorem ifT {c : Bool} {A B : Prop} (hc : c = true) (h : A) : if c = true then A else B := by
  rw [if_pos hc]
  exact h
theorem ifF {c : Bool} {A B : Prop} (hc : c = false) (h : B) : if c = true then A else B := by
  rw [hc, if_neg Bool.false_ne_true]
  exact h
theorem qT {Q : VK} {c : Bool} {H : Hp} (h : c = true) (q : Q (.bl true) H) : Q (.bl c) H := by rw [h]; exact q
theorem qF {Q : VK} {c : Bool} {H : Hp} (h : c = false) (q : Q (.bl false) H) : Q (.bl c) H := by rw [h]; exact q
theorem ifB {c : Bool} {A B : Prop} (h1 : c = true → A) (h2 : c = false → B) : if c = true then A else B := by
  cases c with
  | true => exact ifT rfl (h1 rfl)
  | false => exact ifF rfl (h2 rfl)
/-! ### what a head tells beside the listed facts -/
/-- an own class whose instances isinstance reads -/
def insB (K : PySem.W.Frag) (x : Str) : Bool := He.eqO (PySem.W.findIn K (.ref (He.ga K x)) "__class__") (some (some (.builtin "object.__class__"))) &&
  (He.eqO (PySem.W.specialIn K (.builtin "object.__class__") "__get__") (some (some (.builtin "getset_descriptor.__get__"))) && (decide (PySem.W.takesIn K (.builtin "object.__class__") = some true) &&
    decide (PySem.W.mroIn K (He.ga K x) (.type "object") = some true)))
theorem insB_ty {K : PySem.W.Frag} {H : Hp} {x : Str} (h : insB K x = true) (cl : Cls K (He.ga K x)) {a dx : Addr} {fs : List (Str × V)} (e : H a = some (.ins (He.ga K x) dx fs)) : TyOf K H (.ref a) (.ref (He.ga K x)) := by
  obtain ⟨h1, h⟩ := He.ba h
  obtain ⟨h2, h⟩ := He.ba h
  obtain ⟨h3, h4⟩ := He.ba h
  exact .ins e cl (He.eqO_ok h1) (He.eqO_ok h2) (of_decide_eq_true h3) (of_decide_eq_true h4)
/-- isinstance between two own classes -/
def kitC (K : PySem.W.Frag) (x y : Str) (b : Bool) : Bool := decide (PySem.W.kitOne K (.ref (He.ga K x)) (.ref (He.ga K y)) = some b)
theorem kitC_ok {K : PySem.W.Frag} {x y : Str} {b : Bool} (h : kitC K x y b = true) : PySem.W.kitOne K (.ref (He.ga K x)) (.ref (He.ga K y)) = some b := of_decide_eq_true h
/-- a special method of an own class is its def -/
def spcB (K : PySem.W.Frag) (x m : Str) : Bool := He.eqO (PySem.W.findIn K (.ref (He.ga K x)) m) (some (some (.ref (He.ma K (He.ga K x) m)))) && PySem.W.isFn K (.ref (He.ma K (He.ga K x) m))
theorem spcB_ok {K : PySem.W.Frag} {x m : Str} (h : spcB K x m = true) : PySem.W.findIn K (.ref (He.ga K x)) m = some (some (.ref (He.ma K (He.ga K x) m))) ∧ PySem.W.isFn K (.ref (He.ma K (He.ga K x) m)) = true :=
  let ⟨a, b⟩ := He.ba h; ⟨He.eqO_ok a, b⟩
/-! ### isinstance -/
theorem isi_ty {K : PySem.W.Frag} {H : Hp} {Q : VK} {x : V} {t n : String} {b : Bool} (ty : TyX K H x (.type t)) (q : Q (.bl b) H) (e : kitB t n = some b := by decide +kernel) : rIsi K [x, .ty n] H Q :=
  ⟨x, .ty n, .type t, .type n, b, rfl, .ty n, ty, kit_ty e, q⟩
/-! ### a statement told by what holds behind it -/
def tMid (t : TS) : TS := fun D σ H => ∃ M : L2.St → Hp → Prop, t { D with nx := M } σ H ∧ ∀ σ' H', M σ' H' → D.nx σ' H'
theorem ps_mid {X : Cx} {st : Stmt} {t : TS} (h : PS X st t) : PS X st (tMid t) := by
  constructor
  rintro pins s σ H D I ⟨M, a, b⟩
  refine wpAny_mono (h.run pins s σ H _ I a) (fun f s' z => ?_) fun _ _ z => z
  cases f with
  | next =>
    obtain ⟨σ', H', I', m⟩ := z
    exact ⟨σ', H', I', b σ' H' m⟩
  | ret v => exact z
  | brk => exact z
  | cont => exact z
end RM

set_option Elab.async false
set_option linter.all false
/-! sequences of either kind: for x in v -/
namespace RM
open PySem PySem.Spec
open PyProof.Rows
open L2
/-- what is laid behind the last address is no one's -/
theorem late {X : Cx} {pins : List (Addr × Obj)} {σ : L2.St} {H : Hp} {s : Shared} (inv : Inv X pins σ H s) : ∀ b ∈ [s.heap.objs.size], FpOk X pins H b := by
  intro b hb
  obtain rfl := List.mem_singleton.mp hb
  exact inv.fpOk (Nat.le_refl _) (inv.hok.fresh (Nat.le_refl _))
@[irreducible] def SeqG (K : PySem.W.Frag) (x : V) (H1 : Hp) (R : It → Hp → Prop) : Prop :=
  ∃ a, x = .ref a ∧ ((∃ xs, SqL K H1 a xs ∧ R (Itl K a) H1) ∨ (∃ xs, SqT K H1 a xs ∧ R (Itt K a) H1))
def iSeqA (K : PySem.W.Frag) (tl : TE) : TI := fun σ H R => tl σ H fun x H1 => SeqG K x H1 R
theorem pi_seqA {X : Cx} {tg l : Expr} {tl : TE} (hl : PE X l tl) : PI X tg l (iSeqA X.K tl) := by
  constructor
  intro pins s σ H R inv pre
  refine thn (hl.run pins s σ H _ inv pre) ?_
  rintro v s1 ⟨x, H1, inv1, rel, post⟩
  rw [show SeqG X.K x H1 R = (∃ a, x = .ref a ∧ ((∃ xs, SqL X.K H1 a xs ∧ R (Itl X.K a) H1) ∨ (∃ xs, SqT X.K H1 a xs ∧ R (Itt X.K a) H1))) by unfold SeqG; rfl] at post
  obtain ⟨a, rfl, ⟨xs, sq, r⟩ | ⟨xs, sq, r⟩⟩ := post
  · obtain rfl : v = .ref a := rel
    obtain ⟨its, _, at_, _⟩ := inv1.list sq
    exact wpAny_pyIter_list at_.isList ⟨_, _, _, _, _, rfl, inv1.kept (t' := s1.toks) fun _ _ e => Heap.get?_push_of_some _ e, turn_list a _, ⟨_, Heap.get?_push_size _ rfl, rfl, rfl⟩, late inv1, r⟩
  · obtain rfl : v = .ref a := rel
    obtain ⟨its, _, at_, _⟩ := inv1.tuple sq
    exact wpAny_pyIter_tuple (items := its.toArray) at_ ⟨_, _, _, _, _, rfl, inv1.kept (t' := s1.toks) fun _ _ e => Heap.get?_push_of_some _ e, turn_tuple a _, ⟨_, Heap.get?_push_size _ rfl, rfl, rfl⟩, late inv1, r⟩
end RM

set_option Elab.async false
set_option linter.all false
set_option maxRecDepth 100000
/-! enumerate(a tuple): how it is made -/
namespace RM
open PySem PySem.Spec
open PyProof.Rows
open L2
abbrev tupIt (a : Addr) : Obj := { cls := .type "tuple_iterator", data := .fields #[.ref a, .int 0 0] }
abbrev enOb (e : Addr) : Obj := { cls := .type "enumerate", data := .fields #[.none, .bool false, .ref e, rawInt 0, .none, .none] }
theorem made_enum (a : Addr) (its : Array Value) : Meets (Builtin.«enumerate.__new__» ⟨[.type "enumerate", .ref a], []⟩)
    fun _ R s => s.heap.IsTuple a its ∧ R (.ok (.ret (.ref (s.heap.push (tupIt a)).objs.size))) { s with heap := (s.heap.push (tupIt a)).push (enOb s.heap.objs.size) } := by
  refine .of_wp ?_
  rintro prog w A R ⟨hp, g, d, tk, os⟩ ⟨tup, fin⟩
  have sub := sub_enumerate
  have go : ∀ {B : Around} {EE QQ : Value → Shared → Prop}, QQ (.ref hp.objs.size) ⟨hp.push (tupIt a), g, d, tk, os⟩ → wpAny (model prog w) B (pyIter (.ref a)) QQ EE ⟨hp, g, d, tk, os⟩ :=
    wpAny_pyIter_tuple (s := ⟨hp, g, d, tk, os⟩) tup
  wp_walk using go
  refine wpAny_stack_any fun frames => ?_
  apply wpAny_pure
  split
  case h_1 c _ _ _ _ _ =>
    by_cases e : (c == Value.type "enumerate") = true
    all_goals (simp only [e]; wp_walk using go; exact ⟨_, rfl, fin⟩)
  case h_2 => wp_walk using go; exact ⟨_, rfl, fin⟩
section
variable {P : Program} {w : World} {s : Shared} {A : Around} {E : Value → Shared → Prop}
/-- enumerate(t): the enumerate object stands one behind the tuple's iterator -/
theorem call_enumT {a : Addr} {its : Array Value} {Q : Value → Shared → Prop} (tup : s.heap.IsTuple a its)
    (then_ : ∀ hp : Heap, IsEnum hp (s.heap.objs.size + 1) s.heap.objs.size ((0 : Nat) : Int) .none → hp.get? s.heap.objs.size = some (tupIt a) → (∀ c u, s.heap.get? c = some u → hp.get? c = some u) → Q (.ref (s.heap.objs.size + 1)) { s with heap := hp }) :
    wpAny (model P w) A (call (.type "enumerate") [.ref a]) Q E s := by
  have sz : (s.heap.push (tupIt a)).objs.size = s.heap.objs.size + 1 := Heap.size_push _ _
  have at1 : ((s.heap.push (tupIt a)).push (enOb s.heap.objs.size)).get? (s.heap.objs.size + 1) = some (enOb s.heap.objs.size) := sz ▸ Heap.get?_push_size (s.heap.push (tupIt a)) (o := enOb s.heap.objs.size) rfl
  apply callType_new F.called_enumerate (by decide) (F.typeCall_enumerate_1 (.ref a)) (F.newCall_enumerate_1 (.ref a)) (fun o => F.args_object_init_2 o (.ref a)) F.entry_enumerate_new (made_enum a its)
  refine ⟨tup, ?_⟩
  show Shared.TypeIs _ _ _ ∧ Q _ _
  rw [sz]
  exact ⟨⟨_, at1, rfl⟩, then_ _ at1 (Heap.get?_push_of_some _ (Heap.get?_push_size _ rfl)) fun c u old => Heap.get?_push_of_some _ (Heap.get?_push_of_some _ old)⟩
end
theorem turn_pair {P : Program} {w : World} {K : PySem.W.Frag} {elts : List Expr} {kk : Nat} {tpos : Pos} {J : It} {fp : List Addr} {it : Addr} {tn : Nat → Heap → Prop}
    (mem : it ∈ fp) (obj : ∀ i h, tn i h → ∀ b ∈ fp, ∃ o, h.get? b = some o ∧ ∀ v, o.data ≠ .cell v)
    (keep : ∀ i h h', tn i h → (∀ b ∈ fp, ∀ o, h.get? b = some o → h'.get? b = some o) → tn i h')
    (self : ∀ (A : Around) (i : Nat) (s : Shared) (Q : Value → Shared → Prop) (E : Value → Shared → Prop), tn i s.heap → Q (.ref it) s → wpAny (model P w) A (pyIter (.ref it)) Q E s)
    (go : ∀ (X : Cx), X.prog = P → X.w = w → X.K = K → ∀ (i : Nat) (pins : List (Addr × Obj)) (s : Shared) (σ : L2.St) (H : Hp), Inv X pins σ H s → X.A.handled = none → tn i s.heap → J.go i H →
      ∃ (fp' wr : List Addr) (n : Nat) (Y : Nat → Heap → Value → Heap → Prop) (St : Nat → Heap → Prop), GoesN P w X.A (.Tuple elts kk tpos) it fp' wr n Y St ∧ i < n ∧ St i s.heap ∧ (∀ b ∈ wr, b ∈ fp) ∧
        ∀ v h', Y i s.heap v h' → St (i + 1) h' → ∃ T u1 u2 x y, v = .ref T ∧ s.heap.objs.size ≤ T ∧ h'.IsTuple T #[u1, u2] ∧ RelV x u1 ∧ RelV y u2 ∧ tn (i + 1) h' ∧ J.yld i H (.ref T) (upd H T (.tup [x, y])))
    (stop : ∀ (X : Cx), X.prog = P → X.w = w → X.K = K → ∀ (i : Nat) (pins : List (Addr × Obj)) (s : Shared) (σ : L2.St) (H : Hp), Inv X pins σ H s → X.A.handled = none → tn i s.heap → J.stop i H →
      ∃ (fp' wr : List Addr) (Y : Nat → Heap → Value → Heap → Prop) (St : Nat → Heap → Prop), GoesN P w X.A (.Tuple elts kk tpos) it fp' wr i Y St ∧ St i s.heap ∧ (∀ b ∈ wr, b ∈ fp)) :
    Turn P w K (.Tuple elts kk tpos) J fp it tn where
  mem := mem
  obj := obj
  keep := keep
  item := by
    rintro X hP hw hK hc i pins s σ H E I hf st hg
    obtain ⟨fp', wr, n, Y, St, W, hi, hs, hwr, hy⟩ := go X hP hw hK i pins s σ H I (I.ok.hd hc) st hg
    refine wpAny_mono (W.goes i s (fun v s2 => ∃ x H', Inv X pins σ H' s2 ∧ RelV x v ∧ J.yld i H x H' ∧ tn (i + 1) s2.heap ∧ ∀ b ∈ fp, H' b = none) E hi hs fun v h' tk y st' hk htk => ?_) (fun r s1 q => q) fun _ _ q => q
    obtain ⟨T, u1, u2, x, y', rfl, hT, ht, r1, r2, t', yl⟩ := hy v h' y st'
    have hd : s.heap.objs.size ≤ T := hT
    have new : ObjOk X.prog X.w (upd H T (.tup [x, y'])) h' T (.tup [x, y']) := ⟨by show 2 ≤ sizeLine; decide, [u1, u2], .cons r1 (.cons r2 .nil), ht⟩
    have I1 : Inv X pins σ (upd H T (.tup [x, y'])) { s with heap := h', toks := tk } := I.turnedNew (ch := fp) (fun c o hb q => hk c o (fun z => hb (hwr c z)) q) hf hT new
    refine ⟨.ref T, _, I1, rfl, yl, t', fun b hb => ?_⟩
    obtain ⟨o, ho, _⟩ := obj i _ st b hb
    rw [upd_ne (Nat.ne_of_lt (Nat.lt_of_lt_of_le (Heap.lt_size ho) hT))]
    exact (hf b hb).1
  done := by
    rintro X hP hw hK hc i pins s σ H E I hf st hg
    obtain ⟨fp', wr, Y, St, W, hs, hwr⟩ := stop X hP hw hK i pins s σ H I (I.ok.hd hc) st hg
    exact W.stops s (fun s1 => Inv X pins σ H s1) E hs fun h' tk hk htk => I.turnedL (ch := fp) (fun c o hb q => hk c o (fun z => hb (hwr c z)) q) hf
  self := self

/-! ### for i, x in enumerate(a tuple) -/
/-- the tuple at a, its items in new pairs behind their numbers -/
def IteT (K : PySem.W.Frag) (a : Addr) : It :=
  ⟨fun i H => ∃ (xs : List V) (x : V), SqT K H a xs ∧ xs[i]? = some x,
    fun i H v H' => ∃ T x, v = .ref T ∧ H T = none ∧ H' = upd H T (.tup [.int (i : Nat), x]) ∧ ∀ xs, SqT K H a xs → xs[i]? = some x,
    fun i H => ∃ xs : List V, SqT K H a xs ∧ xs.length = i⟩
theorem turn_enumT {P : Program} {w : World} {K : PySem.W.Frag} {elts : List Expr} {kk : Nat} {tpos : Pos} {a e it : Addr} (hei : e ≠ it) (hae : a ≠ e) (hai : a ≠ it) :
    Turn P w K (.Tuple elts kk tpos) (IteT K a) [e, it] e (fun i h => (∃ old, IsEnum h e it ((i : Nat) : Int) old) ∧ h.IsTupleIter it a i) := by
  refine turn_pair (by simp) (fun i h st b hb => ?_) (fun i h h' st k => ?_) (fun A i s Q E st h => let ⟨⟨_, he⟩, _⟩ := st; wpAny_pyIter_enum he h) ?_ ?_
  · obtain ⟨⟨old, he⟩, ⟨o2, e2, _, d2⟩⟩ := st
    rcases List.mem_cons.mp hb with rfl | rest
    · exact ⟨_, he, fun v => nofun⟩
    · obtain rfl : b = it := by simpa using rest
      exact ⟨o2, e2, fun v no => by simp [d2] at no⟩
  · obtain ⟨⟨old, he⟩, h2⟩ := st
    exact ⟨⟨old, k e (by simp) _ he⟩, h2.at fun o q => k it (by simp) o q⟩
  · rintro X rfl rfl rfl i pins s σ H I hh ⟨he, hit⟩ ⟨xs, x, hq, hx⟩
    obtain ⟨its, rv, p, _⟩ := I.tuple hq
    obtain ⟨u, hu, ru⟩ := Vals.get (xs := xs) rv hx
    have pt : s.heap.IsTuple a its.toArray := p
    have W := GoesN.enumFrom (prog := X.prog) (w := X.w) (A := X.A) (elts := elts) (x1 := kk) (pos := tpos) 0 (Draws.tuple (prog := X.prog) (w := X.w) (A := X.A.in1) hh it a hai its.toArray) e hei (by simp [hei, Ne.symm hae]) (by simp)
    refine ⟨_, _, _, _, _, W, ?_, ⟨?_, hit, pt⟩, by simp, ?_⟩
    · have : i < its.length := (List.getElem?_eq_some_iff.mp hu).1
      simpa using this
    · obtain ⟨old, he⟩ := he
      exact ⟨old, by simpa using he⟩
    · rintro v h' ⟨T, t, x', rfl, hT, hx', ht⟩ ⟨⟨old, he'⟩, hit', _⟩
      have hx2 : its[i]? = some x' := by simpa using hx'
      rw [hu] at hx2
      cases hx2
      refine ⟨T, _, _, .int (i : Nat), x, rfl, hT, ht, ⟨t, by simp⟩, ru, ⟨⟨old, by simpa using he'⟩, hit'⟩, T, x, rfl, I.hok.fresh hT, rfl, fun l hl => ?_⟩
      rw [I.tuple_inj hl hq]
      exact hx
  · rintro X rfl rfl rfl i pins s σ H I hh ⟨he, hit⟩ ⟨xs, hq, hx⟩
    obtain ⟨its, rv, p, _⟩ := I.tuple hq
    have pt : s.heap.IsTuple a its.toArray := p
    have W := GoesN.enumFrom (prog := X.prog) (w := X.w) (A := X.A) (elts := elts) (x1 := kk) (pos := tpos) 0 (Draws.tuple (prog := X.prog) (w := X.w) (A := X.A.in1) hh it a hai its.toArray) e hei (by simp [hei, Ne.symm hae]) (by simp)
    have hl : its.toArray.size = i := by
      have q := rv.length
      simp only [List.size_toArray]
      omega
    rw [hl] at W
    refine ⟨_, _, _, _, W, ⟨?_, hit, pt⟩, by simp⟩
    obtain ⟨old, he⟩ := he
    exact ⟨old, by simpa using he⟩
theorem walk_enumT {K : PySem.W.Frag} {a : Addr} {xs : List V} : Walk (IteT K a) xs.length (fun H => SqT K H a xs) (YPair (fun i => some (.int (i : Nat))) (fun i => xs[i]?)) where
  goes := fun i H hi h => ⟨xs, xs[i], h, by simp [hi]⟩
  stops := fun H h => ⟨xs, h, rfl⟩
  yields := fun i H x H' hi h ⟨T, y, e1, e2, e3, e4⟩ => ⟨T, _, y, e1, e2, e3, rfl, e4 xs h⟩
/-- enumerate(v): v a list or a tuple -/
@[irreducible] def EnumG (K : PySem.W.Frag) (vs : List V) (H1 : Hp) (R : It → Hp → Prop) : Prop :=
  ∃ a, vs = [.ref a] ∧ ((∃ xs, SqL K H1 a xs ∧ R (Ite K a) H1) ∨ (∃ xs, SqT K H1 a xs ∧ R (IteT K a) H1))
def iEnumA (K : PySem.W.Frag) (ta : TA) : TI := fun σ H R => ta σ H fun vs H1 => EnumG K vs H1 R
theorem late2 {X : Cx} {pins : List (Addr × Obj)} {σ : L2.St} {H : Hp} {s : Shared} (inv : Inv X pins σ H s) : ∀ b ∈ [s.heap.objs.size + 1, s.heap.objs.size], FpOk X pins H b := by
  intro b hb
  have above : s.heap.objs.size ≤ b := by
    have : b = s.heap.objs.size + 1 ∨ b = s.heap.objs.size := by simpa using hb
    omega
  exact inv.fpOk above (inv.hok.fresh above)
theorem pi_enumA {X : Cx} {e : Expr} {ta : TA} {p pos tpos : Pos} {elts : List Expr} {kk : Nat} (hg : Gl X "enumerate") (hm : X.mg "enumerate" = none) (ha : PA X [e] ta) (hs : starEach [e] X.env = [(false, eval e X.env)] := by rfl) :
    PI X (.Tuple elts kk tpos) (.Call (.Name "enumerate" p) [e] [] pos) (iEnumA X.K ta) := by
  constructor
  intro pins s σ H R inv pre
  refine Call_ (ld_blt inv hg hm boot_enumerate (PyProof.Rows.callWith_type1 (thn (ha.run pos pins s σ H _ inv pre) ?_) hs rfl))
  rintro us s1 ⟨vs, H1, inv1, rel, post⟩
  rw [show EnumG X.K vs H1 R = (∃ a, vs = [.ref a] ∧ ((∃ xs, SqL X.K H1 a xs ∧ R (Ite X.K a) H1) ∨ (∃ xs, SqT X.K H1 a xs ∧ R (IteT X.K a) H1))) by unfold EnumG; rfl] at post
  obtain ⟨a, rfl, ⟨xs, sq, r⟩ | ⟨xs, sq, r⟩⟩ := post
  · obtain rfl := Vals.ref1 rel
    obtain ⟨its, _, at_, _⟩ := inv1.list sq
    exact call_enumerate_list at_.isList fun hp en li _ old => wpAny_pyIter_enum en ⟨_, _, _, _, H1, rfl, inv1.kept (t' := s1.toks) old, turn_enum a (s1.heap.objs.size + 1) s1.heap.objs.size, ⟨⟨.none, en⟩, li, Nat.succ_ne_self _⟩, late2 inv1, r⟩
  · obtain rfl := Vals.ref1 rel
    obtain ⟨its, _, at_, _⟩ := inv1.tuple sq
    have low : a < s1.heap.objs.size := at_.lt
    exact call_enumT (its := its.toArray) at_ fun hp en it_ old => wpAny_pyIter_enum en ⟨_, _, _, _, H1, rfl, inv1.kept (t' := s1.toks) old, turn_enumT (Nat.succ_ne_self _) (Nat.ne_of_lt (Nat.lt_succ_of_lt low)) (Nat.ne_of_lt low), ⟨⟨.none, en⟩, ⟨_, it_, rfl, rfl⟩⟩, late2 inv1, r⟩
end RM

set_option Elab.async false
set_option linter.all false
set_option maxRecDepth 100000
/-! zip(a tuple, a text) -/
namespace RM
open PySem PySem.Spec
open PyProof.Rows
open L2
def ItzTS (K : PySem.W.Frag) (a : Addr) (z : Str) : It :=
  ⟨fun i H => ∃ (xs : List V) (x : V) (c : Nat), SqT K H a xs ∧ xs[i]? = some x ∧ z.cps[i]? = some c,
    fun i H v H' => ∃ T x c, v = .ref T ∧ H T = none ∧ H' = upd H T (.tup [x, .str ⟨#[c]⟩]) ∧ (∀ xs, SqT K H a xs → xs[i]? = some x) ∧ z.cps[i]? = some c,
    fun i H => ∃ xs : List V, SqT K H a xs ∧ min xs.length z.cps.size = i⟩
theorem turn_zipTS {P : Program} {w : World} {K : PySem.W.Frag} {elts : List Expr} {kk : Nat} {tpos : Pos} {a z TI TO i1 i2 : Addr} {x : Str} {tx : Tok} (S : ZipSep2 z TI TO i1 i2 [i1, a] [i2]) (hai : a ≠ i1) :
    Turn P w K (.Tuple elts kk tpos) (ItzTS K a x) [z, TI, TO, i1, i2] z (fun i h => IsZip h z TI TO .none ∧ IsTupOf2 h TI (.ref i1) (.ref i2) ∧ (∃ a1 a2, IsTupOf2 h TO a1 a2) ∧ h.IsTupleIter i1 a i ∧ h.IsStrIter i2 (strIterType x) x tx i) := by
  refine turn_pair (by simp) (fun i h st b hb => ?_) (fun i h h' st k => ?_) (fun A i s Q E st h => wpAny_pyIter_zip st.1 h) ?_ ?_
  · obtain ⟨zi, ti, ⟨_, _, to_⟩, ⟨o1, e1, _, d1⟩, ⟨o2, e2, _, d2⟩⟩ := st
    simp only [List.mem_cons, List.not_mem_nil, or_false] at hb ⊢
    have fl : ∀ {o : Obj} {vs : Array Value}, o.data = .fields vs → ∀ v, o.data ≠ .cell v := fun d v no => by simp [d] at no
    obtain rfl | rfl | rfl | rfl | rfl := hb
    · exact ⟨_, zi, fun v => nofun⟩
    · exact ⟨_, ti, fun v => nofun⟩
    · exact ⟨_, to_, fun v => nofun⟩
    · exact ⟨o1, e1, fl d1⟩
    · exact ⟨o2, e2, fl d2⟩
  · obtain ⟨hz, hTI, ⟨a1, a2, hTO⟩, h1, h2⟩ := st
    exact ⟨k z (by simp) _ hz, k TI (by simp) _ hTI, ⟨a1, a2, k TO (by simp) _ hTO⟩, h1.at fun o q => k i1 (by simp) o q, let ⟨o, ho, r⟩ := h2; ⟨o, k i2 (by simp) o ho, r⟩⟩
  · rintro X rfl rfl rfl i pins s σ H I hh ⟨hz, hTI, hTO, h1, h2⟩ ⟨xs, y, c, hq, hx, hc⟩
    obtain ⟨its, rv, p, _⟩ := I.tuple hq
    obtain ⟨u, hu, ru⟩ := Vals.get (xs := xs) rv hx
    have pt : s.heap.IsTuple a its.toArray := p
    have W := GoesN.zip2 (prog := X.prog) (w := X.w) (A := X.A) (elts := elts) (x1 := kk) (pos := tpos) S (Draws.tuple (prog := X.prog) (w := X.w) (A := X.A.in1) hh i1 a hai its.toArray) (Draws.text (prog := X.prog) (w := X.w) (A := X.A.in1) hh i2 x tx)
    refine ⟨_, _, _, _, _, W, ?_, ⟨hz, hTI, hTO, ⟨h1, pt⟩, h2⟩, by simp, ?_⟩
    · have l1 : i < its.length := (List.getElem?_eq_some_iff.mp hu).1
      have l2 : i < x.cps.size := (Array.getElem?_eq_some_iff.mp hc).1
      simp only [List.size_toArray]
      omega
    · rintro v h' ⟨T, x', y', rfl, hT, hx', ⟨c', t', hc', rfl⟩, ht⟩ ⟨hz', hTI', hTO', ⟨h1', _⟩, h2'⟩
      have hx2 : its[i]? = some x' := by simpa using hx'
      rw [hu] at hx2
      cases hx2
      rw [hc] at hc'
      cases hc'
      refine ⟨T, _, _, y, .str ⟨#[c]⟩, rfl, hT, ht, ru, ⟨t', rfl⟩, ⟨hz', hTI', hTO', h1', h2'⟩, T, y, c, rfl, I.hok.fresh hT, rfl, fun l hl => ?_, hc⟩
      rw [I.tuple_inj hl hq]
      exact hx
  · rintro X rfl rfl rfl i pins s σ H I hh ⟨hz, hTI, hTO, h1, h2⟩ ⟨xs, hq, hl⟩
    obtain ⟨its, rv, p, _⟩ := I.tuple hq
    have pt : s.heap.IsTuple a its.toArray := p
    have W := GoesN.zip2 (prog := X.prog) (w := X.w) (A := X.A) (elts := elts) (x1 := kk) (pos := tpos) S (Draws.tuple (prog := X.prog) (w := X.w) (A := X.A.in1) hh i1 a hai its.toArray) (Draws.text (prog := X.prog) (w := X.w) (A := X.A.in1) hh i2 x tx)
    have hl2 : min its.toArray.size x.cps.size = i := by
      have q := rv.length
      simp only [List.size_toArray]
      omega
    rw [hl2] at W
    exact ⟨_, _, _, _, W, ⟨hz, hTI, hTO, ⟨h1, pt⟩, h2⟩, by simp⟩
def iZipTS (K : PySem.W.Frag) (ta : TA) : TI := fun σ H R => ta σ H fun vs H1 => ∃ a xs z, vs = [.ref a, .str z] ∧ SqT K H1 a xs ∧ R (ItzTS K a z) H1
theorem late5 {X : Cx} {pins : List (Addr × Obj)} {σ : L2.St} {H : Hp} {s : Shared} (inv : Inv X pins σ H s) :
    ∀ b ∈ [s.heap.objs.size + 4, s.heap.objs.size + 2, s.heap.objs.size + 3, s.heap.objs.size, s.heap.objs.size + 1], FpOk X pins H b := by
  intro b hb
  have above : s.heap.objs.size ≤ b := by
    have : b = s.heap.objs.size + 4 ∨ b = s.heap.objs.size + 2 ∨ b = s.heap.objs.size + 3 ∨ b = s.heap.objs.size ∨ b = s.heap.objs.size + 1 := by
      simpa using hb
    omega
  exact inv.fpOk above (inv.hok.fresh above)
theorem pi_zipTS {X : Cx} {e e2 : Expr} {ta : TA} {p pos tpos : Pos} {elts : List Expr} {kk : Nat} (hg : Gl X "zip") (hm : X.mg "zip" = none) (ha : PA X [e, e2] ta)
    (two : starEach [e, e2] X.env = (false, eval e X.env) :: starEach [e2] X.env := by rfl)
    (plain : (backTo pos (starEach [e2] X.env)).any (·.1) = false := by rfl) : PI X (.Tuple elts kk tpos) (.Call (.Name "zip" p) [e, e2] [] pos) (iZipTS X.K ta) := by
  constructor
  intro pins s σ H R inv pre
  refine Call_ (ld_blt inv hg hm PyProof.Rows.boot_zip (PyProof.Rows.callWith_type1 (thn (ha.run pos pins s σ H _ inv pre) ?_) two plain))
  rintro us s1 ⟨_, H1, inv1, rel, a, xs, z, rfl, sq, r⟩
  obtain ⟨_, u, rfl, rfl, ⟨tx, rfl⟩⟩ := vals2 rel
  obtain ⟨its, _, at_, _⟩ := inv1.tuple sq
  have low : a < s1.heap.objs.size := at_.lt
  have sep := zip_sep2 (N := s1.heap.objs.size) (fp1 := [a]) (fp2 := []) (fun b hb => (List.mem_singleton.mp hb).symm ▸ low) nofun
  exact zip_begins2 (begins_tuple a its.toArray) (begins_text z tx) at_ trivial fun hp zi ti to_ i1 i2 _ old =>
    wpAny_pyIter_zip zi ⟨_, _, _, _, H1, rfl, inv1.kept (t' := s1.toks) old, turn_zipTS sep (Nat.ne_of_lt low), ⟨zi, ti, ⟨_, _, to_⟩, ⟨_, i1, rfl, rfl⟩, ⟨_, i2, rfl, rfl⟩⟩, late5 inv1, r⟩
theorem walk_zipTS {K : PySem.W.Frag} {a : Addr} {xs : List V} {z : Str} (hl : xs.length = z.cps.size) : Walk (ItzTS K a z) xs.length (fun H => SqT K H a xs) (YPair (fun i => xs[i]?) (fun i => (z.cps[i]?).map fun c => .str ⟨#[c]⟩)) where
  goes := fun i H hi h => ⟨xs, xs[i], z.cps[i]'(by omega), h, by simp [hi], by simp⟩
  stops := fun H h => ⟨xs, h, by omega⟩
  yields := fun i H x H' hi h ⟨T, y, c, e1, e2, e3, e4, e5⟩ => ⟨T, y, _, e1, e2, e3, e4 xs h, by show Option.map _ z.cps[i]? = _; rw [e5]; rfl⟩
end RM

set_option Elab.async false
set_option linter.all false
set_option maxRecDepth 100000
set_option maxHeartbeats 2000000
/-! heaps that keep; sequences of either kind -/
namespace RM
open PySem PySem.Spec
open PyProof.Rows
open L2
/-- a clause's turns: at the end `fin`; else one more, behind whose tests `wk` is done -/
def Turns (J : It) (g : TG) (tt : TT) (wk : L2.St → Hp → (Hp → Prop) → Prop) (σ0 : L2.St) (vs : List Nat) (W : Nat → Nat → Hp → Prop) (fin : Hp → Prop) : Prop :=
  ∀ i m H, W i m H → (J.stop i H ∧ fin H) ∨ (J.go i H ∧ ∃ N : Hp → Prop, (∀ H', N H' → ∃ m', m' < m ∧ W (i + 1) m' H') ∧
    ∀ x H', J.yld i H x H' → g x σ0 H' fun σ2 H2 => wipe σ2 vs = σ0 ∧ tt σ2 H2 fun b H3 => if b = true then wk σ2 H3 N else N H3)
theorem smT {K : PySem.W.Frag} {H H' : Hp} {a : Addr} {xs : List V} (e : Same H H') (h : SqT K H a xs) : SqT K H' a xs := by
  exact h.imp (Or.imp (e _ _) fun ⟨o, at_⟩ => ⟨o, e _ _ at_⟩) id
theorem smNew {H H1 : Hp} (e : Same H H1) {p : Addr} (h : H1 p = none) (o : HO) : Same H (upd H1 p o) := fun b u q => by rw [upd_ne (ne_of_none (e b u q) h)]; exact e b u q
theorem smNew1 {H : Hp} {p : Addr} (h : H p = none) (o : HO) : Same H (upd H p o) := smNew (Same.refl H) h o
/-- p is none of H's -/
theorem smOut {H H1 : Hp} (e : Same H H1) {p : Addr} (h : H p = none) (o : HO) : Same H (upd H1 p o) := fun b u q => by rw [upd_ne (ne_of_none q h)]; exact e b u q
/-- the tuples stay -/
def TS (K : PySem.W.Frag) (H H' : Hp) : Prop := ∀ a xs, SqT K H a xs → SqT K H' a xs
theorem TS.refl (K : PySem.W.Frag) (H : Hp) : TS K H H := fun _ _ h => h
theorem TS.trans {K : PySem.W.Frag} {H H1 H2 : Hp} (a : TS K H H1) (b : TS K H1 H2) : TS K H H2 := fun p xs h => b p xs (a p xs h)
theorem ts_sm {K : PySem.W.Frag} {H H' : Hp} (e : Same H H') : TS K H H' := fun _ _ h => smT e h
/-- what no tuple is may change -/
def NoTup : HO → Prop
  | .tup _ => False
  | .frz _ _ => False
  | _ => True
theorem ts_upd {K : PySem.W.Frag} {H : Hp} {p : Addr} {u : HO} (o : HO) (h : H p = some u) (n : NoTup u) : TS K H (upd H p o) := fun a xs q => by
  rcases q with (q | ⟨ob, q⟩) | q
  · exact .inl (.inl (by rw [upd_ne (fun z => by rw [z, h] at q; cases q; exact n)]; exact q))
  · exact .inl (.inr ⟨ob, by rw [upd_ne (fun z => by rw [z, h] at q; cases q; exact n)]; exact q⟩)
  · exact .inr q
/-! ### walks of pairs: what the library's Goes.. give, as a Turn -/
/-- a sequence to be read: a list or a tuple -/
def SqA (K : PySem.W.Frag) (H : Hp) (a : Addr) (xs : List V) : Prop := SqL K H a xs ∨ SqT K H a xs
theorem sqA_sm {K : PySem.W.Frag} {H H' : Hp} {a : Addr} {xs : List V} (e : Same H H') (h : SqA K H a xs) : SqA K H' a xs := by
  rcases h with h | h
  · exact .inl (e.seq h)
  · exact .inr (smT e h)
theorem seqA_of {K : PySem.W.Frag} {H0 H : Hp} {a : Addr} {xs : List V} {R : It → Hp → Prop} (h : SqA K H0 a xs) (e : Same H0 H) (q : ∀ J, Walk J xs.length (fun H' => Same H0 H') (YAt xs) → R J H) :
    SeqG K (.ref a) H R := by
  unfold SeqG
  rcases h with h | h
  · exact ⟨a, rfl, .inl ⟨xs, e.seq h, q _ (walk_list.mono (fun H' e => e.seq h) fun i H x H' _ _ y => y)⟩⟩
  · exact ⟨a, rfl, .inr ⟨xs, smT e h, q _ (walk_tup.mono (fun H' e => smT e h) fun i H x H' _ _ y => y)⟩⟩
theorem enumA_of {K : PySem.W.Frag} {H0 H : Hp} {a : Addr} {xs : List V} {R : It → Hp → Prop} (h : SqA K H0 a xs) (e : Same H0 H) (q : ∀ J, Walk J xs.length (fun H' => Same H0 H') (YPair (fun i => some (.int (i : Nat))) (fun i => xs[i]?)) → R J H) :
    EnumG K [.ref a] H R := by
  unfold EnumG
  rcases h with h | h
  · exact ⟨a, rfl, .inl ⟨xs, e.seq h, q _ (walk_enum.mono (fun H' e => e.seq h) fun i H x H' _ _ y => y)⟩⟩
  · exact ⟨a, rfl, .inr ⟨xs, smT e h, q _ (walk_enumT.mono (fun H' e => smT e h) fun i H x H' _ _ y => y)⟩⟩
/-- t + u -/
@[irreducible] def CatG (K : PySem.W.Frag) : R2 := rCatA K
theorem op_catG {X : Cx} : OpR X (binaryOp .Add) (CatG X.K) := by
  unfold CatG
  exact op_catA
theorem op_catG' {X : Cx} {K : PySem.W.Frag} (hK : X.K = K) : OpR X (binaryOp .Add) (CatG K) := by
  subst hK
  exact op_catG
theorem catA_of {K : PySem.W.Frag} {H : Hp} {a b : Addr} {xs ys : List V} {Q : VK} (ha : SqT K H a xs) (hb : SqT K H b ys) (hl : xs.length + ys.length ≤ sizeLine)
    (q : ∀ t H', Same H H' → SqT K H' t (xs ++ ys) → Q (.ref t) H') : CatG K (.ref a) (.ref b) H Q := by
  unfold CatG
  refine ⟨a, b, xs, ys, rfl, rfl, ha, hb, hl, ?_, ?_, ?_⟩
  · intro e
    subst e
    exact q b H (Same.refl H) (by simpa using hb)
  · intro _ e
    subst e
    exact q a H (Same.refl H) (by simpa using ha)
  · intro _ _ p hp
    exact q p _ (smNew1 hp _) (SqT.of upd_same)
end RM

set_option Elab.async false
set_option linter.all false
set_option maxRecDepth 100000
set_option maxHeartbeats 2000000
namespace RM
open PySem PySem.Spec PyProof.Rows L2
/-! ### data in the heap -/
section
variable {K : PySem.W.Frag} {H H' : Hp}
mutual
theorem Dp.keep (e : Same H H') : ∀ {v : V} {d : PyData}, Dp K H v d → Dp K H' v d
  | _, _, .non => .non
  | _, _, .bl b => .bl b
  | _, _, .int i => .int i
  | _, _, .str x => .str x
  | _, _, .lst h r => .lst (e.seq h) (DpAll.keep e r)
  | _, _, .tup h r => .tup (smT e h) (DpAll.keep e r)
theorem DpAll.keep (e : Same H H') : ∀ {vs : List V} {ds : List PyData}, DpAll K H vs ds → DpAll K H' vs ds
  | _, _, .nil => .nil
  | _, _, .cons h r => .cons (Dp.keep e h) (DpAll.keep e r)
end
theorem DpAll.len : ∀ {vs : List V} {ds : List PyData}, DpAll K H vs ds → vs.length = ds.length
  | _, _, .nil => rfl
  | _, _, .cons h r => congrArg (· + 1) (DpAll.len r)
theorem DpAll.get : ∀ {vs : List V} {ds : List PyData}, DpAll K H vs ds → ∀ {i : Nat} {d : PyData}, ds[i]? = some d → ∃ v, vs[i]? = some v ∧ Dp K H v d
  | _, _, .nil, i, d, e => by simp at e
  | _, _, .cons h r, 0, d, e => by
    have e' := Option.some.inj e
    subst e'
    exact ⟨_, rfl, h⟩
  | _, _, .cons h r, i + 1, d, e => DpAll.get r (i := i) (by simpa using e)
theorem DpAll.getV : ∀ {vs : List V} {ds : List PyData}, DpAll K H vs ds → ∀ {i : Nat} {v : V}, vs[i]? = some v → ∃ d, ds[i]? = some d ∧ Dp K H v d
  | _, _, .nil, i, d, e => by simp at e
  | _, _, .cons h r, 0, d, e => by
    have e' := Option.some.inj e
    subst e'
    exact ⟨_, rfl, h⟩
  | _, _, .cons h r, i + 1, d, e => DpAll.getV r (i := i) (by simpa using e)
theorem DpAll.snoc : ∀ {vs : List V} {ds : List PyData} {v : V} {d : PyData}, DpAll K H vs ds → Dp K H v d → DpAll K H (vs ++ [v]) (ds ++ [d])
  | _, _, _, _, .nil, h => .cons h .nil
  | _, _, _, _, .cons g r, h => .cons g (DpAll.snoc r h)
theorem DpAll.app : ∀ {vs us : List V} {ds es : List PyData}, DpAll K H vs ds → DpAll K H us es → DpAll K H (vs ++ us) (ds ++ es)
  | _, _, _, _, .nil, h => h
  | _, _, _, _, .cons g r, h => .cons g (DpAll.app r h)
theorem Dp.str_inv {v : V} {x : Str} (h : Dp K H v (.str x)) : v = .str x := by cases h; rfl
theorem Dp.int_inv {v : V} {i : Int} (h : Dp K H v (.int i)) : v = .int i := by cases h; rfl
theorem Dp.tup_inv {v : V} {ds : List PyData} (h : Dp K H v (.tuple ds)) : ∃ a xs, v = .ref a ∧ SqT K H a xs ∧ DpAll K H xs ds := by cases h with | tup h r => exact ⟨_, _, rfl, h, r⟩
theorem Dp.lst_inv {v : V} {ds : List PyData} (h : Dp K H v (.list ds)) : ∃ a xs, v = .ref a ∧ SqL K H a xs ∧ DpAll K H xs ds := by cases h with | lst h r => exact ⟨_, _, rfl, h, r⟩
theorem DpAll.cons_inv {vs : List V} {d : PyData} {ds : List PyData} (h : DpAll K H vs (d :: ds)) : ∃ v r, vs = v :: r ∧ Dp K H v d ∧ DpAll K H r ds := by cases h with | cons h r => exact ⟨_, _, rfl, h, r⟩
theorem DpAll.nil_inv {vs : List V} (h : DpAll K H vs []) : vs = [] := by cases h; rfl
end
/-- a sequence: a list or a tuple -/
def seqD (fl : Bool) (l : List PyData) : PyData := if fl then .list l else .tuple l
theorem seqD_inv {K : PySem.W.Frag} {H : Hp} {v : V} {fl : Bool} {ds : List PyData} (h : Dp K H v (seqD fl ds)) : ∃ a xs, v = .ref a ∧ (SqL K H a xs ∨ SqT K H a xs) ∧ DpAll K H xs ds := by
  cases fl with
  | true => obtain ⟨a, xs, e, h1, h2⟩ := Dp.lst_inv h; exact ⟨a, xs, e, .inl h1, h2⟩
  | false => obtain ⟨a, xs, e, h1, h2⟩ := Dp.tup_inv h; exact ⟨a, xs, e, .inr h1, h2⟩
/-! ### statements -/
inductive Stm where
  | read (v k : Str) | set (v : Str) (n : Int) | copy (v u : Str) | print (v : Str) | say (n : Int) | wait
  | ite (v : Str) (n : Int) (a b : List Stm) | same (v u : Str) (a b : List Stm) | rep (n : Int) (a : List Stm) | stop
namespace Stm
def word : Stm → Str
  | .read .. => "read" | .set .. => "set" | .copy .. => "copy" | .print .. => "print" | .say .. => "say" | .wait => "wait"
  | .ite .. => "if" | .same .. => "same" | .rep .. => "repeat" | .stop => "stop"
def form : Stm → Str
  | .read .. => "kk" | .set .. => "kv" | .copy .. => "kk" | .print .. => "k" | .say .. => "v" | .wait => ""
  | .ite .. => "kvbb" | .same .. => "kkbb" | .rep .. => "tb" | .stop => ""
def flats : Stm → List PyData
  | .read v k => [.str v, .str k] | .set v n => [.str v, .int n] | .copy v u => [.str v, .str u] | .print v => [.str v] | .say n => [.int n] | .wait => []
  | .ite v n _ _ => [.str v, .int n] | .same v u _ _ => [.str v, .str u] | .rep n _ => [.int n] | .stop => []
def bodies : Stm → List (List Stm)
  | .ite _ _ a b => [a, b] | .same _ _ a b => [a, b] | .rep _ a => [a]
  | _ => []
/-- the variables that it names -/
def names : Stm → List Str
  | .read v _ => [v] | .set v _ => [v] | .copy v u => [v, u] | .print v => [v] | .say _ => [] | .wait => []
  | .ite v _ _ _ => [v] | .same v u _ _ => [v, u] | .rep _ _ => [] | .stop => []
end Stm
mutual
def encS (fl : Bool) : Stm → PyData
  | .read v k => .tuple [.str "read", .str v, .str k]
  | .set v n => .tuple [.str "set", .str v, .int n]
  | .copy v u => .tuple [.str "copy", .str v, .str u]
  | .print v => .tuple [.str "print", .str v]
  | .say n => .tuple [.str "say", .int n]
  | .wait => .tuple [.str "wait"]
  | .ite v n a b => .tuple [.str "if", .str v, .int n, seqD fl (encB fl a), seqD fl (encB fl b)]
  | .same v u a b => .tuple [.str "same", .str v, .str u, seqD fl (encB fl a), seqD fl (encB fl b)]
  | .rep n a => .tuple [.str "repeat", .int n, seqD fl (encB fl a)]
  | .stop => .tuple [.str "stop"]
def encB (fl : Bool) : List Stm → List PyData
  | [] => []
  | s :: r => encS fl s :: encB fl r
end
theorem encB_map (fl : Bool) : ∀ l : List Stm, encB fl l = l.map (encS fl)
  | [] => rfl
  | s :: r => by rw [encB, List.map_cons, encB_map fl r]
theorem encS_eq (fl : Bool) (s : Stm) : encS fl s = .tuple (.str s.word :: (s.flats ++ s.bodies.map fun b => seqD fl (encB fl b))) := by
  cases s <;> simp only [encS] <;> rfl
/-! ### words, values -/
def isValue (n : Int) : Bool := decide (-99 ≤ n) && decide (n ≤ 99)
def isLet (c : Nat) : Bool := decide (c ∈ ("abcdefghijklmnopqrstuvwxyz" : Str).cps.toList)
def isWord (z : Str) : Bool := decide (1 ≤ z.length) && decide (z.length ≤ 6) && z.cps.toList.all isLet
theorem isWord_len {z : Str} (h : isWord z = true) : z.length ≤ 6 := by
  unfold isWord at h
  rw [Bool.and_eq_true, Bool.and_eq_true] at h
  exact of_decide_eq_true h.1.2
theorem word_size {z : Str} (h : isWord z = true) : z.length ≤ sizeLine := Nat.le_of_lt (small1000 (by have := isWord_len h; omega))
/-- what stands in a statement itself is right -/
def wl : Stm → Bool
  | .read v k => isWord v && isWord k | .set v n => isWord v && isValue n | .copy v u => isWord v && isWord u | .print v => isWord v | .say n => isValue n | .wait => true
  | .ite v n _ _ => isWord v && isValue n | .same v u _ _ => isWord v && isWord u | .rep n _ => decide (0 ≤ n) && decide (n ≤ 3) | .stop => true
mutual
def wS : Stm → Bool
  | .read v k => isWord v && isWord k | .set v n => isWord v && isValue n | .copy v u => isWord v && isWord u | .print v => isWord v | .say n => isValue n | .wait => true
  | .ite v n a b => isWord v && isValue n && (wB a && wB b) | .same v u a b => isWord v && isWord u && (wB a && wB b) | .rep n a => (decide (0 ≤ n) && decide (n ≤ 3)) && wB a | .stop => true
def wB : List Stm → Bool
  | [] => true
  | s :: r => wS s && wB r
end
theorem wl_of {s : Stm} (h : wS s = true) : wl s = true := by
  cases s <;> simp only [wS, wl] at h ⊢ <;> first | exact h | exact (Bool.and_eq_true_iff.mp h).1
theorem wB_of {s : Stm} (h : wS s = true) : ∀ b ∈ s.bodies, wB b = true := by
  cases s <;> simp only [wS, Stm.bodies, List.mem_cons, List.not_mem_nil, or_false, Bool.and_eq_true, false_implies, implies_true] at h ⊢
  · rintro b (rfl | rfl)
    · exact h.2.1
    · exact h.2.2
  · rintro b (rfl | rfl)
    · exact h.2.1
    · exact h.2.2
  · rintro b rfl
    exact h.2
theorem wB_all : ∀ {l : List Stm}, wB l = true → ∀ s ∈ l, wS s = true
  | [], _, s, h => by simp at h
  | t :: r, w, s, h => by
    rw [wB, Bool.and_eq_true] at w
    rcases List.mem_cons.mp h with rfl | h
    · exact w.1
    · exact wB_all w.2 s h
theorem isValue_rep {n : Int} (h : (decide (0 ≤ n) && decide (n ≤ 3)) = true) : isValue n = true := by
  rw [Bool.and_eq_true] at h
  have h1 := of_decide_eq_true h.1
  have h2 := of_decide_eq_true h.2
  unfold isValue
  rw [decide_eq_true (by omega), decide_eq_true (by omega)]
  rfl
/-! ### numbers of a statement -/
mutual
/-- how deep bodies are nested in a statement, a body -/
def dS : Stm → Nat
  | .ite _ _ a b => max (dB a) (dB b)
  | .same _ _ a b => max (dB a) (dB b)
  | .rep _ a => dB a
  | _ => 0
def dB : List Stm → Nat
  | [] => 1
  | s :: r => max (dS s + 1) (dB r)
end
mutual
/-- how many statements, inner ones counted -/
def cS : Stm → Nat
  | .ite _ _ a b => 1 + cB a + cB b
  | .same _ _ a b => 1 + cB a + cB b
  | .rep _ a => 1 + cB a
  | _ => 1
def cB : List Stm → Nat
  | [] => 0
  | s :: r => cS s + cB r
end
mutual
/-- the statements of a body with their paths, in the order of the text -/
def aS (p : List Int) : Stm → List (List Int × Stm)
  | .ite v n a b => (p, .ite v n a b) :: (aB (p ++ [0]) 0 a ++ aB (p ++ [1]) 0 b)
  | .same v u a b => (p, .same v u a b) :: (aB (p ++ [0]) 0 a ++ aB (p ++ [1]) 0 b)
  | .rep n a => (p, .rep n a) :: aB (p ++ [0]) 0 a
  | s => [(p, s)]
def aB (p : List Int) (i : Nat) : List Stm → List (List Int × Stm)
  | [] => []
  | s :: r => aS (p ++ [(i : Int)]) s ++ aB p (i + 1) r
end
theorem dB_one : ∀ l : List Stm, 1 ≤ dB l
  | [] => Nat.le_refl 1
  | s :: r => by rw [dB]; exact Nat.le_trans (dB_one r) (Nat.le_max_right _ _)
theorem dB_mem : ∀ {l : List Stm} {s : Stm}, s ∈ l → dS s + 1 ≤ dB l
  | [], s, h => by simp at h
  | t :: r, s, h => by
    rw [dB]
    rcases List.mem_cons.mp h with rfl | h
    · exact Nat.le_max_left _ _
    · exact Nat.le_trans (dB_mem h) (Nat.le_max_right _ _)
theorem dS_mem {s : Stm} {b : List Stm} (h : b ∈ s.bodies) : dB b ≤ dS s := by
  cases s <;> simp only [Stm.bodies, List.mem_cons, List.not_mem_nil, or_false] at h <;> simp only [dS]
  · rcases h with rfl | rfl
    · exact Nat.le_max_left _ _
    · exact Nat.le_max_right _ _
  · rcases h with rfl | rfl
    · exact Nat.le_max_left _ _
    · exact Nat.le_max_right _ _
  · rw [h]; exact Nat.le_refl _
theorem cS_pos (s : Stm) : 1 ≤ cS s := by cases s <;> simp only [cS] <;> omega
theorem cB_mem : ∀ {l : List Stm} {s : Stm}, s ∈ l → cS s ≤ cB l
  | [], s, h => by simp at h
  | t :: r, s, h => by
    rw [cB]
    rcases List.mem_cons.mp h with rfl | h
    · omega
    · have := cB_mem h; omega
theorem cS_mem {s : Stm} {b : List Stm} (h : b ∈ s.bodies) : cB b + 1 ≤ cS s := by
  cases s <;> simp only [Stm.bodies, List.mem_cons, List.not_mem_nil, or_false] at h <;> simp only [cS]
  · rcases h with rfl | rfl <;> omega
  · rcases h with rfl | rfl <;> omega
  · rw [h]; omega
theorem cB_len : ∀ l : List Stm, l.length ≤ cB l
  | [] => Nat.le_refl 0
  | s :: r => by
    have := cB_len r
    have := cS_pos s
    rw [cB, List.length_cons]
    omega
/-! ### kinds -/
theorem tyT {K : PySem.W.Frag} {H : Hp} {a : Addr} {xs : List V} (h : SqT K H a xs) : TyX K H (.ref a) (.type "tuple") := by
  rcases h with (h | ⟨o, h⟩) | ⟨o, its, n, h, hc, _⟩
  · exact .base (.tup h)
  · exact .fTuple h
  · exact .kTuple h hc
theorem tyL {K : PySem.W.Frag} {H : Hp} {a : Addr} {xs : List V} (h : SqL K H a xs) : TyX K H (.ref a) (.type "list") := by
  rcases h with (h | ⟨o, h⟩) | ⟨o, its, n, h, hc, _⟩
  · exact .base (.lst h)
  · exact .base (.frz h)
  · exact .kList h hc
/-! ### cuts -/
theorem cut_tail (x : V) (xs : List V) : cutV (x :: xs) (some 1) none = xs := by
  unfold cutV
  have e1 : HT.sIx (x :: xs).length 0 (some 1) = 1 := by
    have := HT.sIx_nat (x :: xs).length 0 1
    rw [show (some 1 : Option Int) = some ((1 : Nat) : Int) from rfl, this, List.length_cons]
    omega
  rw [e1, HT.sIx_none, List.length_cons]
  show (xs.drop 0).take (xs.length + 1 - 1) = xs
  rw [List.drop_zero, Nat.add_sub_cancel, List.take_length]
theorem cut_not {x : V} {xs : List V} : ¬ (HT.sIx (x :: xs).length 0 (some 1) = 0 ∧ HT.sIx (x :: xs).length (x :: xs).length none = (x :: xs).length) := by
  intro h
  have := HT.sIx_nat (x :: xs).length 0 1
  rw [show (some 1 : Option Int) = some ((1 : Nat) : Int) from rfl, this, List.length_cons] at h
  omega
/-! ### comprehensions over a walk: what is kept of each item -/
theorem paired_mono {α β : Type} {F G : α → β → Prop} {l : List α} {m : List β} (p : Paired F l m) (h : ∀ a b, F a b → G a b) : Paired G l m := L2.Paired.mapP p h
/-- a new item goes to the list at D -/
abbrev addsL (D : Addr) (te : TE) : L2.St → Hp → (Hp → Prop) → Prop := fun σ H N => te σ H fun y H1 => ∃ acc, H1 D = some (.lst acc) ∧ acc.length < sizeLine ∧ N (upd H1 D (.lst (acc ++ [y])))
theorem lc_opt {α : Type} {J : It} {n : Nat} {G : Hp → Prop} {Y : Nat → Hp → V → Hp → Prop} (wk : Walk J n G Y) {g : TG} {tt : TT} {te : TE} {vs : List Nat} {σ : L2.St} {H1 : Hp} {D : Addr} {Qd : Hp → Prop}
    (R : α → V → Hp → Prop) (o : Nat → Option α) (hD : H1 D = none) (hn : n < sizeLine) (hG : ∀ H, Same H1 H → G H)
    (hR : ∀ a y H H', R a y H → Same H H' → R a y H') (hRD : ∀ a y H l l', R a y H → H D = some (.lst l) → R a y (upd H D (.lst l')))
    (hs : ∀ i x H H' (N : Hp → Prop), i < n → Same H1 H → Y i H x H' →
      (∀ y H4 a, o i = some a → Same H H4 → R a y H4 → ∃ acc, H4 D = some (.lst acc) ∧ acc.length < sizeLine ∧ N (upd H4 D (.lst (acc ++ [y])))) → (o i = none → ∀ H3, Same H H3 → N H3) →
      g x (wipe σ vs) H' fun σ2 H2 => wipe σ2 vs = wipe σ vs ∧ tt σ2 H2 fun b H3 => if b = true then addsL D te σ2 H3 N else N H3)
    (hd : ∀ H ys, Same H1 H → H D = some (.lst ys) → Paired (fun y a => R a y H) ys ((List.range n).filterMap o) → Qd H) :
    ∃ W : Nat → Nat → Hp → Prop, (∃ m, W 0 m (upd H1 D (.lst []))) ∧ Turns J g tt (addsL D te) (wipe σ vs) vs W Qd := by
  have len : ∀ i, ((List.range i).filterMap o).length ≤ i := fun i => Nat.le_trans (List.length_filterMap_le ..) (by simp)
  refine lc_it wk (fun i H => i ≤ n ∧ Same H1 H ∧ ∃ acc, H D = some (.lst acc) ∧ Paired (fun y a => R a y H) acc ((List.range i).filterMap o)) ⟨Nat.zero_le _, smNew1 hD _, [], upd_same, .nil⟩ (fun i H _ h => hG H h.2.1) ?_ ?_
  · rintro i x H H' hi ⟨_, s1, acc, hacc, p⟩ y
    refine hs i x H H' _ hi s1 y (fun y H4 a ha s4 r => ⟨acc, s4 _ _ hacc, ?_, hi, ?_, acc ++ [y], upd_same, ?_⟩) (fun ha H3 s3 => ⟨hi, fun b u q => s3 _ _ (s1 _ _ q), acc, s3 _ _ hacc, ?_⟩)
    · have := p.length
      have := len i
      omega
    · intro b u q
      rw [upd_ne (ne_of_none q hD)]
      exact s4 _ _ (s1 _ _ q)
    · rw [List.range_succ, List.filterMap_append, List.filterMap_cons, ha]
      refine Paired.snoc (paired_mono p fun y' a' r' => ?_) ?_
      · exact hRD _ _ _ _ _ (hR _ _ _ _ r' s4) (s4 _ _ hacc)
      · exact hRD _ _ _ _ _ r (s4 _ _ hacc)
    · rw [List.range_succ, List.filterMap_append, List.filterMap_cons, ha]
      show Paired _ acc (_ ++ [])
      rw [List.append_nil]
      exact paired_mono p fun y' a' r' => hR _ _ _ _ r' s3
  · rintro H ⟨_, s1, acc, hacc, p⟩
    exact hd H acc s1 hacc p
theorem paired_const {α β : Type} {v : α} : ∀ {ys : List α} {l : List β}, Paired (fun y _ => y = v) ys l → ys = List.replicate l.length v
  | _, _, .nil => rfl
  | _, _, .cons h t => by rw [h, paired_const t]; rfl
theorem range_some {α : Type} (f : Nat → α) (n : Nat) : (List.range n).filterMap (fun i => some (f i)) = (List.range n).map f := by
  induction n with
  | zero => rfl
  | succ n ih => rw [List.range_succ, List.filterMap_append, List.map_append, ih]; rfl
theorem rep_bl (n : Nat) : List.replicate n (V.bl true) = (List.replicate n true).map V.bl := (List.map_replicate ..).symm
theorem all_rep (n : Nat) : (List.replicate n true).all id = true := by
  rw [List.all_eq_true]
  intro x hx
  rw [(List.mem_replicate.mp hx).2]
  rfl
/-! ### data without lists -/
mutual
def noL : PyData → Bool
  | .list _ => false
  | .tuple ds => noLs ds
  | .dict _ => false
  | _ => true
def noLs : List PyData → Bool
  | [] => true
  | d :: r => noL d && noLs r
end
section
variable {K : PySem.W.Frag} {H H' : Hp}
mutual
theorem dp_ts (e : TS K H H') : ∀ {v : V} {d : PyData}, Dp K H v d → noL d = true → Dp K H' v d
  | _, _, .non, _ => .non
  | _, _, .bl b, _ => .bl b
  | _, _, .int i, _ => .int i
  | _, _, .str x, _ => .str x
  | _, _, .lst _ _, n => by simp [noL] at n
  | _, _, .tup h r, n => .tup (e _ _ h) (dps_ts e r (by simpa [noL] using n))
theorem dps_ts (e : TS K H H') : ∀ {vs : List V} {ds : List PyData}, DpAll K H vs ds → noLs ds = true → DpAll K H' vs ds
  | _, _, .nil, _ => .nil
  | _, _, .cons h r, n => by
    rw [noLs, Bool.and_eq_true] at n
    exact .cons (dp_ts e h n.1) (dps_ts e r n.2)
end
end
mutual
theorem noL_encS : ∀ s : Stm, noL (encS false s) = true
  | .read v k => rfl
  | .set v n => rfl
  | .copy v u => rfl
  | .print v => rfl
  | .say n => rfl
  | .wait => rfl
  | .stop => rfl
  | .ite v n a b => by
    have h1 := noL_encB a
    have h2 := noL_encB b
    simp only [encS, seqD, Bool.false_eq_true, if_false, noL, noLs, h1, h2, Bool.and_self]
  | .same v u a b => by
    have h1 := noL_encB a
    have h2 := noL_encB b
    simp only [encS, seqD, Bool.false_eq_true, if_false, noL, noLs, h1, h2, Bool.and_self]
  | .rep n a => by
    have h1 := noL_encB a
    simp only [encS, seqD, Bool.false_eq_true, if_false, noL, noLs, h1, Bool.and_self]
theorem noL_encB : ∀ l : List Stm, noLs (encB false l) = true
  | [] => rfl
  | s :: r => by
    have h1 := noL_encS s
    have h2 := noL_encB r
    rw [encB, noLs, h1, h2]
    rfl
end
theorem noLs_get : ∀ {ds : List PyData}, noLs ds = true → ∀ d ∈ ds, noL d = true
  | [], _, d, h => by simp at h
  | e :: r, n, d, h => by
    rw [noLs, Bool.and_eq_true] at n
    rcases List.mem_cons.mp h with rfl | h
    · exact n.1
    · exact noLs_get n.2 d h
theorem noLs_of : ∀ {ds : List PyData}, (∀ d ∈ ds, noL d = true) → noLs ds = true
  | [], _ => rfl
  | e :: r, h => by rw [noLs, h e List.mem_cons_self, noLs_of fun d hd => h d (List.mem_cons_of_mem _ hd)]; rfl
theorem noLs_app : ∀ {ds es : List PyData}, noLs ds = true → noLs es = true → noLs (ds ++ es) = true
  | [], _, _, h => h
  | e :: r, es, n, h => by
    rw [noLs, Bool.and_eq_true] at n
    rw [List.cons_append, noLs, n.1, noLs_app n.2 h]
    rfl
/-- a tuple of ints -/
def pathD (p : List Int) : PyData := .tuple (p.map .int)
theorem noL_path (p : List Int) : noL (pathD p) = true := by
  show noLs (p.map .int) = true
  exact noLs_of fun d h => by
    obtain ⟨i, _, rfl⟩ := List.mem_map.mp h
    rfl
theorem ints_dp {K : PySem.W.Frag} {H : Hp} : ∀ p : List Int, DpAll K H (p.map V.int) (p.map .int)
  | [] => .nil
  | i :: r => .cons (.int i) (ints_dp r)
theorem ints_inv {K : PySem.W.Frag} {H : Hp} : ∀ {p : List Int} {vs : List V}, DpAll K H vs (p.map .int) → vs = p.map V.int
  | [], _, h => DpAll.nil_inv h
  | i :: r, _, h => by
    obtain ⟨v, q, rfl, h1, h2⟩ := DpAll.cons_inv h
    rw [Dp.int_inv h1, ints_inv h2]
    rfl
theorem path_dp {K : PySem.W.Frag} {H : Hp} {a : Addr} {p : List Int} (h : SqT K H a (p.map V.int)) : Dp K H (.ref a) (pathD p) := .tup h (ints_dp p)
theorem path_inv {K : PySem.W.Frag} {H : Hp} {v : V} {p : List Int} (h : Dp K H v (pathD p)) : ∃ a, v = .ref a ∧ SqT K H a (p.map V.int) := by
  obtain ⟨a, xs, rfl, h1, h2⟩ := Dp.tup_inv h
  rw [ints_inv h2] at h1
  exact ⟨a, rfl, h1⟩
/-! ### the signs of a statement's items -/
def Stm.signs : Stm → List Nat
  | .read .. => [107, 107] | .set .. => [107, 118] | .copy .. => [107, 107] | .print .. => [107] | .say .. => [118] | .wait => []
  | .ite .. => [107, 118, 98, 98] | .same .. => [107, 107, 98, 98] | .rep .. => [116, 98] | .stop => []
theorem signs_eq (s : Stm) : s.form.cps.toList = s.signs := by cases s <;> (simp only [Stm.form, Stm.signs]; decide +kernel)
theorem sign_at {s : Stm} {i c : Nat} (h : s.form.cps[i]? = some c) : s.signs[i]? = some c := by rw [← signs_eq]; simpa using h
/-- one sign of a text beside another -/
theorem sgn (c x : Nat) : decide (V.str ⟨#[c]⟩ = V.str ⟨#[x]⟩) = decide (c = x) := by
  by_cases h : c = x
  · rw [h, decide_eq_true rfl, decide_eq_true rfl]
  · rw [decide_eq_false h, decide_eq_false]
    intro e
    injection e with e1
    injection e1 with e2
    exact h (by simpa using e2)
theorem str_k : ("k" : Str) = ⟨#[107]⟩ := by decide +kernel
theorem str_b : ("b" : Str) = ⟨#[98]⟩ := by decide +kernel
/-- the items that are bodies, by their signs -/
theorem bodies_sel (s : Stm) (f : List Stm → PyData) :
    (List.range (s.flats ++ s.bodies.map f).length).filterMap (fun i => if s.signs[i]? = some 98 then (s.flats ++ s.bodies.map f)[i]? else none) = s.bodies.map f := by
  cases s <;> rfl
theorem names_sel (s : Stm) (f : List Stm → PyData) (h : ∀ v k, s ≠ .read v k) :
    (List.range (s.flats ++ s.bodies.map f).length).filterMap (fun i => if s.signs[i]? = some 107 then (s.flats ++ s.bodies.map f)[i]? else none) = s.names.map .str := by
  cases s <;> first | rfl | exact absurd rfl (h _ _)
theorem some_range {α : Type} : ∀ (l : List α), (List.range l.length).filterMap (fun i => l[i]?) = l := by
  intro l
  have e : ∀ n, n ≤ l.length → (List.range n).filterMap (fun i => l[i]?) = l.take n := by
    intro n
    induction n with
    | zero => intro _; simp
    | succ n ih =>
      intro hn
      rw [List.range_succ, List.filterMap_append, ih (by omega), List.take_add_one]
      have : l[n]? = some l[n] := List.getElem?_eq_getElem (by omega)
      simp [this]
  rw [e l.length (Nat.le_refl _), List.take_length]
theorem sign98 {s : Stm} {i : Nat} (h : s.signs[i]? = some 98) : ∃ b ∈ s.bodies, ∀ f : List Stm → PyData, (s.flats ++ s.bodies.map f)[i]? = some (f b) := by
  cases s with
  | ite v n a b =>
    match i, h with
    | 2, _ => exact ⟨a, by simp [Stm.bodies], fun f => rfl⟩
    | 3, _ => exact ⟨b, by simp [Stm.bodies], fun f => rfl⟩
    | 0, h => simp [Stm.signs] at h
    | 1, h => simp [Stm.signs] at h
    | n + 4, h => simp [Stm.signs] at h
  | same v n a b =>
    match i, h with
    | 2, _ => exact ⟨a, by simp [Stm.bodies], fun f => rfl⟩
    | 3, _ => exact ⟨b, by simp [Stm.bodies], fun f => rfl⟩
    | 0, h => simp [Stm.signs] at h
    | 1, h => simp [Stm.signs] at h
    | n + 4, h => simp [Stm.signs] at h
  | rep n a =>
    match i, h with
    | 1, _ => exact ⟨a, by simp [Stm.bodies], fun f => rfl⟩
    | 0, h => simp [Stm.signs] at h
    | n + 2, h => simp [Stm.signs] at h
  | read v k => match i, h with
    | 0, h => simp [Stm.signs] at h
    | 1, h => simp [Stm.signs] at h
    | n + 2, h => simp [Stm.signs] at h
  | set v k => match i, h with
    | 0, h => simp [Stm.signs] at h
    | 1, h => simp [Stm.signs] at h
    | n + 2, h => simp [Stm.signs] at h
  | copy v k => match i, h with
    | 0, h => simp [Stm.signs] at h
    | 1, h => simp [Stm.signs] at h
    | n + 2, h => simp [Stm.signs] at h
  | print v => match i, h with
    | 0, h => simp [Stm.signs] at h
    | n + 1, h => simp [Stm.signs] at h
  | say v => match i, h with
    | 0, h => simp [Stm.signs] at h
    | n + 1, h => simp [Stm.signs] at h
  | wait => simp [Stm.signs] at h
  | stop => simp [Stm.signs] at h
theorem signFlat {s : Stm} {i c : Nat} (h : s.signs[i]? = some c) (n : c ≠ 98) : ∃ d, noL d = true ∧ ∀ f : List Stm → PyData, (s.flats ++ s.bodies.map f)[i]? = some d := by
  cases s with
  | ite v m a b =>
    match i, h with
    | 0, _ => exact ⟨.str v, rfl, fun f => rfl⟩
    | 1, _ => exact ⟨.int m, rfl, fun f => rfl⟩
    | 2, h => exact absurd (Option.some.inj h).symm n
    | 3, h => exact absurd (Option.some.inj h).symm n
    | k + 4, h => simp [Stm.signs] at h
  | same v m a b =>
    match i, h with
    | 0, _ => exact ⟨.str v, rfl, fun f => rfl⟩
    | 1, _ => exact ⟨.str m, rfl, fun f => rfl⟩
    | 2, h => exact absurd (Option.some.inj h).symm n
    | 3, h => exact absurd (Option.some.inj h).symm n
    | k + 4, h => simp [Stm.signs] at h
  | rep m a =>
    match i, h with
    | 0, _ => exact ⟨.int m, rfl, fun f => rfl⟩
    | 1, h => exact absurd (Option.some.inj h).symm n
    | k + 2, h => simp [Stm.signs] at h
  | read v k => match i, h with
    | 0, h => exact ⟨.str v, rfl, fun f => rfl⟩
    | 1, h => exact ⟨.str k, rfl, fun f => rfl⟩
    | n + 2, h => simp [Stm.signs] at h
  | set v k => match i, h with
    | 0, h => exact ⟨.str v, rfl, fun f => rfl⟩
    | 1, h => exact ⟨.int k, rfl, fun f => rfl⟩
    | n + 2, h => simp [Stm.signs] at h
  | copy v k => match i, h with
    | 0, h => exact ⟨.str v, rfl, fun f => rfl⟩
    | 1, h => exact ⟨.str k, rfl, fun f => rfl⟩
    | n + 2, h => simp [Stm.signs] at h
  | print v => match i, h with
    | 0, h => exact ⟨.str v, rfl, fun f => rfl⟩
    | n + 1, h => simp [Stm.signs] at h
  | say v => match i, h with
    | 0, h => exact ⟨.int v, rfl, fun f => rfl⟩
    | n + 1, h => simp [Stm.signs] at h
  | wait => simp [Stm.signs] at h
  | stop => simp [Stm.signs] at h
theorem items_len (s : Stm) (f : List Stm → PyData) : (s.flats ++ s.bodies.map f).length = s.signs.length := by cases s <;> rfl
/-! ### paths -/
def aBs (q : List Int) : Nat → List (List Stm) → List (List Int × Stm)
  | _, [] => []
  | j, b :: r => aB (q ++ [(j : Int)]) 0 b ++ aBs q (j + 1) r
theorem aS_eq (q : List Int) (s : Stm) : aS q s = (q, s) :: aBs q 0 s.bodies := by
  cases s <;> simp only [aS, Stm.bodies, aBs, List.append_nil] <;> rfl
theorem aB_app (p : List Int) : ∀ (l m : List Stm) (k : Nat), aB p k (l ++ m) = aB p k l ++ aB p (k + l.length) m
  | [], m, k => rfl
  | s :: r, m, k => by
    rw [List.cons_append, aB, aB, aB_app p r m (k + 1), List.append_assoc, List.length_cons]
    rw [show k + 1 + r.length = k + (r.length + 1) by omega]
theorem aBs_app (q : List Int) : ∀ (l m : List (List Stm)) (k : Nat), aBs q k (l ++ m) = aBs q k l ++ aBs q (k + l.length) m
  | [], m, k => rfl
  | s :: r, m, k => by
    rw [List.cons_append, aBs, aBs, aBs_app q r m (k + 1), List.append_assoc, List.length_cons]
    rw [show k + 1 + r.length = k + (r.length + 1) by omega]
theorem take_more {α : Type} {l : List α} {i : Nat} {x : α} (h : l[i]? = some x) : l.take (i + 1) = l.take i ++ [x] := by
  rw [List.take_add_one, h]
  rfl
theorem len_take {α : Type} {l : List α} {i : Nat} {x : α} (h : l[i]? = some x) : (l.take i).length = i := by
  have := (List.getElem?_eq_some_iff.mp h).1
  rw [List.length_take]
  omega
theorem aB_take {p : List Int} {l : List Stm} {i : Nat} {s : Stm} (h : l[i]? = some s) : aB p 0 (l.take (i + 1)) = aB p 0 (l.take i) ++ aS (p ++ [(i : Int)]) s := by
  rw [take_more h, aB_app, len_take h]
  show _ ++ aB p (0 + i) [s] = _
  rw [Nat.zero_add, aB, aB, List.append_nil]
theorem aBs_take {q : List Int} {l : List (List Stm)} {i : Nat} {b : List Stm} (h : l[i]? = some b) : aBs q 0 (l.take (i + 1)) = aBs q 0 (l.take i) ++ aB (q ++ [(i : Int)]) 0 b := by
  rw [take_more h, aBs_app, len_take h]
  show _ ++ aBs q (0 + i) [b] = _
  rw [Nat.zero_add, aBs, aBs, List.append_nil]
mutual
theorem aS_len : ∀ (p : List Int) (s : Stm), (aS p s).length = cS s
  | p, .ite v n a b => by simp only [aS, cS, List.length_cons, List.length_append, aB_len]; omega
  | p, .same v n a b => by simp only [aS, cS, List.length_cons, List.length_append, aB_len]; omega
  | p, .rep n a => by simp only [aS, cS, List.length_cons, aB_len]; omega
  | p, .read v k => rfl
  | p, .set v k => rfl
  | p, .copy v k => rfl
  | p, .print v => rfl
  | p, .say v => rfl
  | p, .wait => rfl
  | p, .stop => rfl
theorem aB_len : ∀ (p : List Int) (k : Nat) (l : List Stm), (aB p k l).length = cB l
  | p, k, [] => rfl
  | p, k, s :: r => by rw [aB, cB, List.length_append, aS_len, aB_len]
end
/-! ### depths -/
def dBs : List (List Stm) → Nat
  | [] => 0
  | b :: r => max (dB b) (dBs r)
theorem dS_eq (s : Stm) : dS s = dBs s.bodies := by cases s <;> simp [dS, Stm.bodies, dBs]
theorem dBs_snoc : ∀ (l : List (List Stm)) (b : List Stm), dBs (l ++ [b]) = max (dBs l) (dB b)
  | [], b => by simp [dBs]
  | c :: r, b => by rw [List.cons_append, dBs, dBs, dBs_snoc r b, Nat.max_assoc]
theorem dB_snoc : ∀ (l : List Stm) (s : Stm), dB (l ++ [s]) = max (dB l) (dS s + 1)
  | [], s => by simp only [List.nil_append, dB]; omega
  | c :: r, s => by rw [List.cons_append, dB, dB, dB_snoc r s, Nat.max_assoc]
end RM

set_option Elab.async false
set_option linter.all false
set_option maxRecDepth 100000
set_option maxHeartbeats 2000000
/-! what == reads of a program's data -/
namespace RM
open PySem PySem.Spec PyProof.Rows L2
theorem noL_tuple {ds : List PyData} (h : noLs ds = true) : noL (.tuple ds) = true := h
theorem let_lt {c : Nat} (h : isLet c = true) : c < 128 := by
  have a : ∀ c ∈ ("abcdefghijklmnopqrstuvwxyz" : Str).cps.toList, c < 128 := by decide +kernel
  exact a c (of_decide_eq_true h)
theorem word_ok {z : Str} (h : isWord z = true) : PyData.strOk z = true := by
  unfold isWord at h
  rw [Bool.and_eq_true] at h
  unfold PyData.strOk
  rw [Array.all_eq_true]
  intro i hi
  have := List.all_eq_true.mp h.2 (z.cps[i]) (by simp)
  exact decide_eq_true (Nat.lt_trans (let_lt this) (by decide))
theorem lay_seq {fl : Bool} {ds : List PyData} (h : PyData.canLayAll0 ds = true) : (seqD fl ds).canLay0 = true := by
  cases fl <;> exact h
theorem dep_seq {fl : Bool} {ds : List PyData} : (seqD fl ds).depth = PyData.depthAll ds + 1 := by
  cases fl <;> simp only [seqD, PyData.depth] <;> rfl
theorem ok_words : ∀ z ∈ (["read", "set", "copy", "print", "say", "wait", "if", "same", "repeat", "stop"] : List Str), PyData.strOk z = true := by decide +kernel
mutual
theorem lay_encS (fl : Bool) : ∀ s : Stm, wS s = true → (encS fl s).canLay0 = true
  | .read v k, h => by
    simp only [wS, Bool.and_eq_true] at h
    simp only [encS, PyData.canLay0, PyData.canLayAll0, word_ok h.1, word_ok h.2, ok_words "read" (by decide), Bool.and_self]
  | .set v n, h => by
    simp only [wS, Bool.and_eq_true] at h
    simp only [encS, PyData.canLay0, PyData.canLayAll0, word_ok h.1, ok_words "set" (by decide), Bool.and_self]
  | .copy v u, h => by
    simp only [wS, Bool.and_eq_true] at h
    simp only [encS, PyData.canLay0, PyData.canLayAll0, word_ok h.1, word_ok h.2, ok_words "copy" (by decide), Bool.and_self]
  | .print v, h => by
    simp only [wS] at h
    simp only [encS, PyData.canLay0, PyData.canLayAll0, word_ok h, ok_words "print" (by decide), Bool.and_self]
  | .say n, h => by
    simp only [encS, PyData.canLay0, PyData.canLayAll0, ok_words "say" (by decide), Bool.and_self]
  | .wait, h => by
    simp only [encS, PyData.canLay0, PyData.canLayAll0, ok_words "wait" (by decide), Bool.and_self]
  | .stop, h => by
    simp only [encS, PyData.canLay0, PyData.canLayAll0, ok_words "stop" (by decide), Bool.and_self]
  | .ite v n a b, h => by
    simp only [wS, Bool.and_eq_true] at h
    simp only [encS, PyData.canLay0, PyData.canLayAll0, word_ok h.1.1, lay_seq (lay_encB fl a h.2.1), lay_seq (lay_encB fl b h.2.2), ok_words "if" (by decide), Bool.and_self]
  | .same v u a b, h => by
    simp only [wS, Bool.and_eq_true] at h
    simp only [encS, PyData.canLay0, PyData.canLayAll0, word_ok h.1.1, word_ok h.1.2, lay_seq (lay_encB fl a h.2.1), lay_seq (lay_encB fl b h.2.2), ok_words "same" (by decide), Bool.and_self]
  | .rep n a, h => by
    simp only [wS, Bool.and_eq_true] at h
    simp only [encS, PyData.canLay0, PyData.canLayAll0, lay_seq (lay_encB fl a h.2), ok_words "repeat" (by decide), Bool.and_self]
theorem lay_encB (fl : Bool) : ∀ l : List Stm, wB l = true → PyData.canLayAll0 (encB fl l) = true
  | [], _ => by simp only [encB, PyData.canLayAll0]
  | s :: r, h => by
    simp only [wB, Bool.and_eq_true] at h
    simp only [encB, PyData.canLayAll0, lay_encS fl s h.1, lay_encB fl r h.2, Bool.and_self]
end
mutual
theorem dep_encS (fl : Bool) : ∀ s : Stm, (encS fl s).depth ≤ 2 * dS s + 1
  | .read v k => by simp [encS, PyData.depth, PyData.depthAll]
  | .set v n => by simp [encS, PyData.depth, PyData.depthAll]
  | .copy v u => by simp [encS, PyData.depth, PyData.depthAll]
  | .print v => by simp [encS, PyData.depth, PyData.depthAll]
  | .say n => by simp [encS, PyData.depth, PyData.depthAll]
  | .wait => by simp [encS, PyData.depth, PyData.depthAll]
  | .stop => by simp [encS, PyData.depth, PyData.depthAll]
  | .ite v n a b => by
    have h1 := dep_encB fl a
    have h2 := dep_encB fl b
    simp only [encS, PyData.depth, PyData.depthAll, dep_seq, dS]
    omega
  | .same v u a b => by
    have h1 := dep_encB fl a
    have h2 := dep_encB fl b
    simp only [encS, PyData.depth, PyData.depthAll, dep_seq, dS]
    omega
  | .rep n a => by
    have h1 := dep_encB fl a
    simp only [encS, PyData.depth, PyData.depthAll, dep_seq, dS]
    omega
theorem dep_encB (fl : Bool) : ∀ l : List Stm, PyData.depthAll (encB fl l) + 1 ≤ 2 * dB l
  | [] => by simp [encB, PyData.depthAll, dB]
  | s :: r => by
    have h1 := dep_encS fl s
    have h2 := dep_encB fl r
    simp only [encB, PyData.depthAll, dB]
    omega
end
theorem shaped_encB {fl : Bool} {l : List Stm} (h : wB l = true) (hd : dB l ≤ 4) : SeqAt.shaped (seqD fl (encB fl l)) = true := by
  unfold SeqAt.shaped
  rw [lay_seq (lay_encB fl l h), dep_seq, decide_eq_true (by have := dep_encB fl l; omega)]
  rfl
theorem eqv_encB {fl : Bool} {l : List Stm} (h : wB l = true) : PyData.eqv (seqD fl (encB fl l)) (seqD fl (encB fl l)) = true := SeqAt.eqv_refl _ (lay_seq (lay_encB fl l h))
theorem encB_get {fl : Bool} {l : List Stm} {i : Nat} {d : PyData} (h : (encB fl l)[i]? = some d) : ∃ s, l[i]? = some s ∧ d = encS fl s := by
  rw [encB_map, List.getElem?_map] at h
  obtain ⟨s, hs, e⟩ := Option.map_eq_some_iff.mp h
  exact ⟨s, hs, e.symm⟩
theorem ty_seq {K : PySem.W.Frag} {H0 H : Hp} {a : Addr} {xs : List V} (h : SqL K H0 a xs ∨ SqT K H0 a xs) (e : Same H0 H) : ∃ t, TyX K H (.ref a) t ∧ PySem.W.kitAny K t [.type "list", .type "tuple"] = some true := by
  rcases h with h | h
  · exact ⟨.type "list", tyL (e.seq h), kitAny_cons (b := true) (kit_ty (by decide +kernel)) (fun z => by cases z) (fun _ => rfl)⟩
  · exact ⟨.type "tuple", tyT (smT e h), kitAny_cons (b := false) (kit_ty (by decide +kernel)) (fun _ => kitAny_cons (b := true) (kit_ty (by decide +kernel)) (fun z => by cases z) (fun _ => rfl)) (fun z => by cases z)⟩
theorem strs_inv {K : PySem.W.Frag} {H : Hp} : ∀ {zs : List Str} {vs : List V}, DpAll K H vs (zs.map .str) → vs = zs.map V.str
  | [], _, h => DpAll.nil_inv h
  | z :: zs, _, h => by
    obtain ⟨v, r, rfl, h1, h2⟩ := DpAll.cons_inv h
    rw [Dp.str_inv h1, strs_inv h2]
    rfl
theorem word_read (s : Stm) : s.word = "read" ↔ ∃ v k, s = .read v k := by
  constructor
  · intro h
    cases s <;> first | exact ⟨_, _, rfl⟩ | exact absurd (show _ = (_ : Str) from h) (by simp only [Stm.word]; decide)
  · rintro ⟨v, k, rfl⟩
    rfl
theorem paired_eq {α : Type} {f : α → V} : ∀ {ys : List V} {l : List α}, Paired (fun y a => y = f a) ys l → ys = l.map f
  | _, _, .nil => rfl
  | _, _, .cons h t => by rw [h, paired_eq t]; rfl
theorem atI_nat0 {α : Type} {xs : List α} {i : Nat} {v : α} (h : xs[i]? = some v) : atI xs (0 + (i : Nat) : Int) = some v := by rw [Int.zero_add]; exact atI_nat h
theorem mk_sm {H H' : Hp} {x dx C : Addr} (hx : H x = none) (hdx : H dx = none) (e : ∀ b u, b ≠ x → (upd (upd H dx (.own x)) x (.ins C dx [])) b = some u → H' b = some u) : Same H H' := fun b u z => by
  refine e b u (ne_of_none z hx) ?_
  rw [upd_ne (ne_of_none z hx), upd_ne (ne_of_none z hdx)]
  exact z
theorem mk_in {H : Hp} {x dx C : Addr} (hx : H x = none) (hdx : H dx = none) (hne : dx ≠ x) : Same H (upd (upd H dx (.own x)) x (.ins C dx [])) :=
  smNew (smNew1 hdx _) (by rw [upd_ne hne.symm]; exact hx) _
/-- x[i], x a list or a tuple -/
def rIxA (K : PySem.W.Frag) : R2 := fun x y H Q => ∃ p xs i v, x = .ref p ∧ y = .int i ∧ (SqL K H p xs ∨ SqT K H p xs) ∧ atI xs i = some v ∧ Q v H
theorem ix_any {X : Cx} : IxR X (rIxA X.K) := by
  intro value slice pins s σ H x y v u Q I rx ry h hs
  obtain ⟨p, xs, i, v', e1, e2, h | h, h2, q⟩ := h
  · exact ix_list value slice pins s σ H x y v u Q I rx ry ⟨p, xs, i, v', e1, e2, h, h2, q⟩ hs
  · exact ix_tup value slice pins s σ H x y v u Q I rx ry ⟨p, xs, i, v', e1, e2, h, h2, q⟩ hs
end RM

set_option Elab.async false
set_option linter.all false
set_option maxRecDepth 100000
set_option maxHeartbeats 2000000
namespace RM
open PySem PySem.Spec PyProof.Rows L2
/-! ### own exception classes: what the head tells -/
/-- an exception class with its own __init__ -/
def oexB (K : PySem.W.Frag) (C : Addr) : Bool :=
  (match K.lookup C with
    | some ⟨.type t, _, .cls cd, sl⟩ => (match cd.mro, sl.toList with
      | .ref c :: bm, [_, _, _, _, some (.builtin n), _] => decide (t = "type") && (decide (c = C) && (decide (n = "ValueError.__new__") && ((!cd.hasDel) && (cd.hasDict && PySem.HandSPX.refsVE bm))))
      | _, _ => false)
    | _ => false) &&
  (He.eqO (PySem.W.findIn K (.ref C) "__setattr__") (some (some (.builtin "object.__setattr__"))) && (decide (PySem.W.subIn K (.ref C) (.type "BaseException") = some true) &&
    (decide (PySem.W.typeIn K (.ref C) = some (.type "type")) && PySem.W.keepIn K (.ref C))))
theorem oexB_ok {K : PySem.W.Frag} {C : Addr} (h : oexB K C = true) : OexC K C := by
  obtain ⟨h0, h⟩ := He.ba h
  obtain ⟨h1, h⟩ := He.ba h
  obtain ⟨h2, h⟩ := He.ba h
  obtain ⟨h3, h4⟩ := He.ba h
  refine ⟨?_, He.eqO_ok h1, of_decide_eq_true h2, of_decide_eq_true h3, h4⟩
  split at h0
  case h_2 => cases h0
  case h_1 t dd cd sl lk =>
    split at h0
    case h_2 => cases h0
    case h_1 c bm k0 k1 k2 k3 n k5 hm hsl =>
      obtain ⟨q1, h0⟩ := He.ba h0
      obtain ⟨q2, h0⟩ := He.ba h0
      obtain ⟨q3, h0⟩ := He.ba h0
      obtain ⟨q4, h0⟩ := He.ba h0
      obtain ⟨q5, q6⟩ := He.ba h0
      have e1 := of_decide_eq_true q1
      have e2 := of_decide_eq_true q2
      have e3 := of_decide_eq_true q3
      have e4 : cd.hasDel = false := by simpa using q4
      obtain ⟨l⟩ := sl
      have e6 : l = [k0, k1, k2, k3, some (.builtin n), k5] := hsl
      cases cd
      simp only at hm e4 q5
      subst hm e1 e2 e3 e4 q5 e6
      exact ⟨_, _, _, _, _, _, _, _, _, _, _, _, _, _, _, lk, q6⟩
/-- X(), X an own exception class without own __init__ -/
theorem pmk_exc0 {X : Cx} {x : Str} {p pos : Pos} (q : PySem.W.excIn X.K (He.ga X.K x) He.veBase "ValueError.__new__" = true ∧ PySem.W.keepIn X.K (.ref (He.ga X.K x)) = true ∧ PySem.W.subIn X.K (.ref (He.ga X.K x)) (.type "BaseException") = some true ∧
      PySem.W.typeIn X.K (.ref (He.ga X.K x)) = some (.type "type")) (gC : X.mg x = some (.ref (He.ga X.K x))) (hg : Gl X x := by rfl) (hdb : (x == ("__debug__" : Str)) = false := by decide) :
    PMk X (.Call (.Name x p) [] [] pos) (fun _ H Q => Q (.ref (He.ga X.K x)) none H) := by
  obtain ⟨q1, q2, q3, q4⟩ := q
  intro pins s σ H Q I h
  refine wpAny_Call_Name_kw (ld_glob I hg gC ?_ hdb)
  refine PySem.W.callWith_K0 I.kIn q2 ?_
  obtain ⟨bm, N, nm, qn, bs, hd, sn, sub, ab, col, dd, k0, k1, k2, k3, k5, mN, hC, hN, hni, T⟩ := exc_obj I.kIn q1
  exact wpAny_call_exc_subT F.excBase_ValueError T hC hN hni (fun h' e hm => mk_of I hm (raises_own q3 q4) h (I.hok.gone hm.new)) (by show 0 ≤ sizeLine; exact Nat.zero_le _)
/-! ### defs that let exceptions out -/
section
variable {P : Program} {w : World} {K : PySem.W.Frag} {mg : Str → Option Value} {base : Heap} {k : Nat} {x m : Str} {C : Addr} {sp : Sp}
/-- the body's form -/
def BodyX (P : Program) (w : World) (K : PySem.W.Frag) (mg : Str → Option Value) (base : Heap) (N : List Str) (qual : Str) (st : Stmt) (f : Addr) (k : Nat) (sp : Sp) : Prop :=
  ∀ (cdv : Value) (A : Around) (outer : List Env) (s : Shared) (H : Hp) (vs : List V) (Q : VK) (E : XK), Room k (A.deeper (envOfC qual (defScope st) s.heap.objs.size f cdv)) → sp vs H Q E →
    ∃ t, PSs (cxOf (L2.CX P w) P w K mg base N qual (defScope st) f cdv A outer s H E) (defBody st) t ∧ t { nx := fun _ H' => Q .non H', rt := Q } (start N vs) H
theorem cal_X {st : Stmt} {f : Addr} {N ps : List Str} (F : ∃ fd, FunD K x x (defArgs st) (defBody st) (defScope st) [] [] f fd) (hm : mg x = some (.ref f)) (S : FnScope N ps (defScope st))
    (hb : ∀ (kV doc pm : Value) (an : Option Addr) (cdv ct : Value) (us : List Value), us.length = ps.length → bindArgs (PySem.W.fnOf x x (defArgs st) (defBody st) (defScope st) .none kV doc pm an cdv ct) ⟨us, []⟩ = pure (ps.zip us))
    (len : ∀ vs H Q E, sp vs H Q E → vs.length = ps.length) (h : BodyX P w K mg base N x st f k sp) : Cal P w K mg base (L2.CX P w) (k + 1) x sp :=
  let ⟨fd, F⟩ := F
  ⟨f, fd, ps, F.ok S len h, hm, F.kp, F.bindsN hb⟩
theorem mak_X {qual : Str} {st : Stmt} {f : Addr} {N ps : List Str} (F : ∃ fd, FunD K "__init__" qual (defArgs st) (defBody st) (defScope st) [] [] f fd) (M : Mk K C f) (hm : mg x = some (.ref C)) (S : FnScope N ps (defScope st))
    (hb : ∀ (kV doc pm : Value) (an : Option Addr) (cdv ct : Value) (us : List Value), us.length = ps.length → bindArgs (PySem.W.fnOf "__init__" qual (defArgs st) (defBody st) (defScope st) .none kV doc pm an cdv ct) ⟨us, []⟩ = pure (ps.zip us))
    (len : ∀ vs H Q E, sp vs H Q E → vs.length = ps.length) (h : BodyX P w K mg base N qual st f k sp) : Mak P w K mg base (L2.CX P w) (k + 1) x C sp :=
  let ⟨fd, F⟩ := F
  ⟨f, fd, ps, M, F.ok S len h, hm, F.bindsN hb⟩
theorem calX_never {x : Str} {st : Stmt} {f : Addr} {ps : List Str} {sp : Sp} {k : Nat} (F : ∃ fd, FunD K x x (defArgs st) (defBody st) (defScope st) [] [] f fd) (hm : mg x = some (.ref f))
    (hb : ∀ (kV doc pm : Value) (an : Option Addr) (cdv ct : Value) (us : List Value), us.length = ps.length → bindArgs (PySem.W.fnOf x x (defArgs st) (defBody st) (defScope st) .none kV doc pm an cdv ct) ⟨us, []⟩ = pure (ps.zip us))
    (no : ∀ vs H Q E, ¬ sp vs H Q E) : Cal P w K mg base (L2.CX P w) k x sp :=
  let ⟨fd, F⟩ := F
  ⟨f, fd, ps, ⟨fun vs H Q E h => absurd h (no vs H Q E), fun A outer s H args us vs Q E _ _ _ _ h => absurd h (no vs H Q E)⟩, hm, F.kp, F.bindsN hb⟩
/-- an own exception class: its name, its __init__ -/
def Exo (P : Program) (w : World) (K : PySem.W.Frag) (mg : Str → Option Value) (base : Heap) (k : Nat) (x : Str) (C : Addr) (sp : Sp) : Prop :=
  ∃ (f : Addr) (fd : FuncData) (ps : List Str), OexC K C ∧ Meth K C "__init__" f ∧ FnOk P w K mg base CX0 k f fd ps sp ∧ mg x = some (.ref C) ∧ Binds K fd ps []
end
section
variable {X : Cx} {W : WX} {k j : Nat} {C : Addr} {x m : Str} {sp : Sp} {E : L2.St → XK} {p pos apos : Pos} {e o : Expr} {es : List Expr} {ta : TE} {t : TA}
/-- f(e, ..), f of a promise with exceptions -/
theorem pcX (tk : Takes X W) (c : Cal X.prog X.w X.K X.mg X.base (L2.CX X.prog X.w) k x sp) (hr : Room j X.A) (ha : PA X (e :: es) t) (hk : k ≤ j := by omega) (hg : Gl X x := by rfl)
    (hpl : (backTo pos (starEach es X.env)).any (·.1) = false := by rfl) (he : starEach (e :: es) X.env = (false, eval e X.env) :: starEach es X.env := by rfl) (hdb : (x == ("__debug__" : Str)) = false := by decide) :
    PE X (.Call (.Name x p) (e :: es) [] pos) (tCallS sp (WE W) t) := by
  obtain ⟨f, fd, ps, F, hm, kp, b⟩ := c
  exact pe_callS F (hr.mono hk) hg hm kp b (fun σ => passAt tk σ) ha hdb he hpl
/-- C(e, ..): a new instance; E at the slots -/
def tMakeS (C : Addr) (sp : Sp) (E : L2.St → XK) (t : TA) : TE := fun σ H Q => t σ H fun vs H1 => ∀ x dx, H1 x = none → H1 dx = none → dx ≠ x →
  sp (.ref x :: vs) (upd (upd H1 dx (.own x)) x (.ins C dx [])) (fun v H2 => v = .non ∧ Q (.ref x) H2) (E σ)
theorem pmkX (tk : Takes X W) (c : Mak X.prog X.w X.K X.mg X.base (L2.CX X.prog X.w) k x C sp) (hr : Room j X.A) (ha : PA X (e :: es) t) (hk : k + 1 ≤ j := by omega) (hg : Gl X x := by rfl)
    (hpl : (backTo pos (starEach es X.env)).any (·.1) = false := by rfl) (he : starEach (e :: es) X.env = (false, eval e X.env) :: starEach es X.env := by rfl) (hdb : (x == ("__debug__" : Str)) = false := by decide) :
    PE X (.Call (.Name x p) (e :: es) [] pos) (tMakeS C sp (WE W) t) := by
  obtain ⟨f, fd, ps, M, F, hm, b⟩ := c
  constructor
  intro pins s σ H Q I h
  refine wpAny_Call_Name_kw (ld_glob I hg hm ?_ hdb)
  refine PySem.W.callWith_K (h₀ := X.base) I.ok.mod.kin M.kp (thn (ha.run pos pins s σ H _ I h) ?_) he hpl
  rintro us s1 ⟨vs, H1, I1, r, q⟩
  refine ⟨I1.kIn, ?_⟩
  have f1 : H1 (s1.heap.objs.size + 1) = none := I1.hok.fresh (Nat.le_succ _)
  have f2 : H1 s1.heap.objs.size = none := I1.hok.fresh (Nat.le_refl _)
  have q1 := q _ _ f1 f2 (Nat.ne_of_lt (Nat.lt_succ_self _))
  have J := Inv.made (C := C) I1
  have rr : Vals (V.ref (s1.heap.objs.size + 1) :: vs) (Value.ref (s1.heap.objs.size + 1) :: us) := .cons rfl r
  have ll : (Value.ref (s1.heap.objs.size + 1) :: us).length = ps.length := rr.length.symm.trans (F.len _ _ _ _ q1)
  have bb := b _ (Value.ref (s1.heap.objs.size + 1) :: us) J.kIn (by rw [List.append_nil]; exact ll)
  rw [List.append_nil] at bb
  refine wpAny_call (make_map (f := f) I1.kIn M.makes M.init (beq_iff_eq.mp M.fn) (codeAny_mono (F.run _ X.stack _ _ ⟨Value.ref (s1.heap.objs.size + 1) :: us, []⟩ _ _ _ _ ((hr.mono hk).make C us []) (J.env0.make C us []) bb rr q1) ?_))
  intro r2 s2 z
  match r2, z with
  | .error y, z => exact passAt tk σ pins _ _ y s2 J z
  | .ok (.ret y), z =>
    obtain ⟨v, H2, J2, rv, rfl, q2⟩ := J.after z
    exact ⟨rv, V.ref (s1.heap.objs.size + 1), H2, J2, rfl, q2⟩
/-- raise C(e, ..), C with its own __init__ -/
theorem ps_raiseX {pos2 : Pos} (tk : Takes X W) (c : Exo X.prog X.w X.K X.mg X.base k x C sp) (hr : Room j X.A) (ha : PA X (e :: es) t) (hc : X.calm = true := by rfl) (hk : k + 1 ≤ j := by omega) (hg : Gl X x := by rfl)
    (hpl : (backTo pos (starEach es X.env)).any (·.1) = false := by rfl) (he : starEach (e :: es) X.env = (false, eval e X.env) :: starEach es X.env := by rfl) (hdb : (x == ("__debug__" : Str)) = false := by decide) :
    PS X (.Raise (some (.Call (.Name x p) (e :: es) [] pos)) none pos2) (fun _ σ H => tMkO C sp [] t σ H fun cls d H' => W cls d σ H') := by
  obtain ⟨f, fd, ps, T, M, F, hm, b⟩ := c
  exact ps_raise hc tk (pmk_oex T M.at_ (beq_iff_eq.mp M.fn) F (hr.mono hk) b .nil pass0 hg hm ha hdb he hpl)
end
/-! ### except clauses, each with or without a name -/
/-- an exception stands caught at the foot of the try -/
def Caught (X : Cx) (pins : List (Addr × Obj)) (σ : L2.St) (H : Hp) (cls : Value) (d : Option Addr) (a : Addr) (s : Shared) : Prop :=
  H a = none ∧ ∃ (B : Heap) (sI : Shared), Inv X pins σ H sI ∧ (∀ b o, sI.heap.get? b = some o → b ∉ frs X.stack → B.get? b = some o) ∧ sI.heap.UpToSlots s.heap ∧ HandSPX.FlyingZ B X.stack a (Zc cls d) s.heap ∧ s.os = sI.os ∧ AllBare s.gens
section
variable {X : Cx} {pins : List (Addr × Obj)} {σ : L2.St} {H : Hp} {cls : Value} {d : Option Addr} {a : Addr} {s : Shared}
theorem Caught.inv (c : Caught X pins σ H cls d a s) : Inv X pins σ H s :=
  let ⟨_, _, _, I, nb, up, fl, os, ag⟩ := c; I.landed nb fl.1 up os ag
theorem Caught.obj (c : Caught X pins σ H cls d a s) : ∃ oe vs, s.heap.get? a = some oe ∧ Zc cls d oe ∧ oe.data = .fields vs :=
  let ⟨_, _, _, _, _, _, fl, _, _⟩ := c; fl.there
theorem Caught.far (c : Caught X pins σ H cls d a s) : a ∉ frs X.stack := by
  obtain ⟨_, _, _, _, _, _, fl, _, _⟩ := c
  obtain ⟨oe, vs, e, _, dd⟩ := fl.there
  intro hm
  obtain ⟨_, o, e', hnf⟩ := fl.2.2.1.mem hm
  rw [e] at e'
  exact hnf vs (Option.some.inj e' ▸ dd)
theorem Caught.suite (c : Caught X pins σ H cls d a s) (hs : X.stack = X.env :: X.outer) (hf : X.env.frame = some X.env.locals) :
    ∃ oe, (Zc cls d oe ∧ ∃ vs, oe.data = .fields vs) ∧ s.heap.get? a = some oe ∧ Inv (X.suite a ((a, oe) :: (X.pn ++ pins))) [] σ H s := by
  obtain ⟨oe, vs, e, z, dd⟩ := c.obj
  have nf := c.far
  rw [hs] at nf
  refine ⟨oe, ⟨z, vs, dd⟩, e, c.inv.suite e dd c.1 (fun h => nf ?_) fun h => nf ?_⟩
  · exact List.mem_filterMap.mpr ⟨X.env, List.mem_cons_self, by rw [hf, h]⟩
  · obtain ⟨u, hu, q⟩ := List.mem_filterMap.mp h
    exact List.mem_filterMap.mpr ⟨u, List.mem_cons_of_mem _ hu, q⟩
theorem Caught.again {M : Model} {A : Around} {Q : Unit → Shared → Prop} {E : Value → Shared → Prop} (c : Caught X pins σ H cls d a s) (h : ∀ s', Caught X pins σ H cls d a s' → Q () s') : wpAny M A (setFlight (.ref a) none) Q E s := by
  obtain ⟨na, B, sI, I, nb, up, fl, os, ag⟩ := c
  exact HandSPX.lands_againZ fl fun h' fl' up' => h _ ⟨na, B, sI, I, nb, up.trans up', fl', os, ag⟩
/-- what a row of clauses wishes, read at the ends -/
def Hds (X : Cx) (hds : List ExceptHandler) (wv : Ends → WX) : Prop :=
  ∀ (pins : List (Addr × Obj)) (D : Ends) (σ : L2.St) (H : Hp) (cls : Value) (d : Option Addr) (a : Addr) (s : Shared), Caught X pins σ H cls d a s → wv D cls d σ H → wpAny (model X.prog X.w) X.A (handleBy (.ref a) X.env hds) (SP X pins D) X.xe s
theorem hds_nil {W : WX} (tk : Takes X W) (hf : X.env.frame = some X.env.locals := by rfl) : Hds X [] (fun _ => W) := by
  intro pins D σ H cls d a s c w
  refine wpAny_handleBy_nil ?_
  obtain ⟨na, B, sI, I, nb, up, fl, os, ag⟩ := c
  obtain ⟨_, _, _, oe, vs, T, _, _, e, _, dd, h1, _⟩ := id fl
  unfold PySem.passOn
  refine wpAny_bind (wpAny_field e dd h1 ?_)
  rw [if_neg (by simp)]
  have out : wpAny (model X.prog X.w) X.A (setFlight (.ref a) X.env.frame) (fun _ s' => wpAny (model X.prog X.w) X.A (throw (.ref a) : Sem Flow) (SP X pins D) X.xe s') X.xe s := by
    rw [hf]
    exact HandSPX.setFlight_upZ fl fun h' hh up' => wpAny_throw (tk _ _ ⟨a, B, sI, pins, σ, H, cls, d, rfl, I, nb, up.trans up', .inr (.inr hh), na, os, ag, w⟩)
  first
    | exact wpAny_bind (wpAny_pure (wpAny_bind out))
    | exact wpAny_bind out
/-- the clause's class is looked at -/
theorem hd_test {x : Str} {np : Pos} {c : Value} {b : Bool} {Q : Bool → Shared → Prop} {E : Value → Shared → Prop} {R : Result → Shared → Prop} {pos' : Pos} (hc : Names X x c) (k : Caught X pins σ H cls d a s) (hs : X.stack = X.env :: X.outer) (hf : X.env.frame = some X.env.locals)
    (hb : PySem.W.exmOne X.K cls c = some b) (h : R (.ok (if b = true then .brk else .next)) s) : codeAny (model X.prog X.w) (X.A.mark (some (.ref a))) (.handlers (.ref a) [.ExceptHandler (some (.Name x np)) none [] pos'] X.env) R s := by
  obtain ⟨oe, ⟨z, _⟩, e, S⟩ := k.suite hs hf
  refine codeAny_handlers_test ?_
  have tyl : PySem.W.Looks (model X.prog X.w) s.heap (typeOf (.ref a)) cls := fun A Q E s k q => wpAny_typeOf_ref (k _ _ e) (by rw [z.1]; exact q)
  have fit := (PySem.W.exm_one (M := model X.prog X.w) k.inv.kIn tyl hb).here (A := X.A.mark (some (.ref a))) (E := notedBy (model X.prog X.w) (X.A.mark (some (.ref a))) X.env fun x s₁ => R (.error x) s₁)
    (Q := fun b s₂ => R (.ok (if b then .brk else .next)) s₂) (s := s) h
  obtain ⟨hg, hd, hm | ⟨hm, hv, hn⟩⟩ := hc
  · exact ld_glob S hg hm fit hd
  · exact ld_blt S hg hm hv fit hn hd
/-- except x: suite -/
def wCl (K : PySem.W.Frag) (c : Value) (ts : Addr → Value → Option Addr → L2.TS) (wr : Ends → WX) : Ends → WX := fun D cls d σ H =>
  ∃ b, PySem.W.exmOne K cls c = some b ∧ (if b = true then ∀ a, H a = none → ts a cls d D σ H else wr D cls d σ H)
/-- the slot of the clause's name is emptied behind -/
def Ends.gone (i : Nat) (D : Ends) : Ends := { nx := fun σ H => D.nx (σ.set i none) H, rt := D.rt, bk := fun σ H => D.bk (σ.set i none) H, ct := fun σ H => D.ct (σ.set i none) H }
/-- except x as n: suite -/
def wClA (K : PySem.W.Frag) (c : Value) (i : Nat) (ts : Addr → Value → Option Addr → L2.TS) (wr : Ends → WX) : Ends → WX := fun D cls d σ H =>
  ∃ b, PySem.W.exmOne K cls c = some b ∧ (if b = true then ∀ a, H a = none → ts a cls d (Ends.gone i D) (σ.set i (some (.ref a))) H else wr D cls d σ H)
theorem hds_cl {x : Str} {np pos' : Pos} {c : Value} {ts : Addr → Value → Option Addr → L2.TS} {b₀ : Stmt} {su : List Stmt} {hds : List ExceptHandler} {wr : Ends → WX} (hc : Names X x c)
    (hsu : ∀ (a : Addr) (oe : Obj) (cls : Value) (d : Option Addr) (pn : List (Addr × Obj)), Zc cls d oe → (∃ vs, oe.data = .fields vs) → PSs (X.suite a ((a, oe) :: pn)) (b₀ :: su) (ts a cls d)) (r : Hds X hds wr)
    (ok : X.Ok → True := fun _ => trivial) (hs : X.stack = X.env :: X.outer := by rfl) (hf : X.env.frame = some X.env.locals := by rfl) : Hds X (.ExceptHandler (some (.Name x np)) none (b₀ :: su) pos' :: hds) (wCl X.K c ts wr) := by
  rintro pins D σ H cls d a s k ⟨b, hb, w⟩
  refine wpAny_handleBy_cons (hd_test (Q := fun _ _ => True) (E := fun _ _ => True) hc k hs hf hb ?_) (fun q => by cases q)
  cases b with
  | false => exact r pins D σ H cls d a s k w
  | true =>
    refine codeAny_handlers_suite (k.again fun s1 k1 => ?_)
    obtain ⟨oe, ⟨z, dd⟩, _, S⟩ := k1.suite hs hf
    refine wpAny_mono ((hsu a oe cls d (X.pn ++ pins) z dd).run [] s1 σ H _ S (w a k.1)) (fun f s2 q => ?_) (fun _ _ q => False.elim q)
    have back : ∀ {σ2 H2}, Inv (X.suite a ((a, oe) :: (X.pn ++ pins))) [] σ2 H2 s2 → Inv X pins σ2 H2 s2 := fun J => J.unsuite k.inv.ok
    match f, q with
    | .ret u, ⟨v, σ2, H2, J, q⟩ => exact ⟨v, σ2, H2, back J, q⟩
    | .next, ⟨σ2, H2, J, q⟩ => exact ⟨σ2, H2, back J, q⟩
    | .brk, ⟨σ2, H2, J, q⟩ => exact ⟨σ2, H2, back J, q⟩
    | .cont, ⟨σ2, H2, J, q⟩ => exact ⟨σ2, H2, back J, q⟩
theorem hds_as {x n : Str} {np pos' : Pos} {c : Value} {i : Nat} {ts : Addr → Value → Option Addr → L2.TS} {b₀ : Stmt} {su : List Stmt} {hds : List ExceptHandler} {wr : Ends → WX} (hN : X.N.Nodup) (hi : X.N[i]? = some n) (hln : X.env.kindOf n = some .local) (hc : Names X x c)
    (hsu : ∀ (a : Addr) (oe : Obj) (cls : Value) (d : Option Addr) (pn : List (Addr × Obj)), Zc cls d oe → (∃ vs, oe.data = .fields vs) → PSs (X.suite a ((a, oe) :: pn)) (b₀ :: su) (ts a cls d)) (r : Hds X hds wr)
    (hs : X.stack = X.env :: X.outer := by rfl) (hf : X.env.frame = some X.env.locals := by rfl) : Hds X (.ExceptHandler (some (.Name x np)) (some n) (b₀ :: su) pos' :: hds) (wClA X.K c i ts wr) := by
  rintro pins D σ H cls d a s k ⟨b, hb, w⟩
  refine wpAny_handleBy_cons (hd_test (Q := fun _ _ => True) (E := fun _ _ => True) hc k hs hf hb ?_) (fun q => by cases q)
  cases b with
  | false => exact r pins D σ H cls d a s k w
  | true =>
    refine codeAny_handlers_suite_as (k.again fun s1 k1 => ?_)
    obtain ⟨oe, ⟨z, dd⟩, _, S⟩ := k1.suite hs hf
    refine store_ok (X := X.suite a ((a, oe) :: (X.pn ++ pins))) (v := .ref a) S hN hi (.inl hln) rfl (fun s2 S2 => ?_) (.inr hln)
    refine wpAny_mono ((hsu a oe cls d (X.pn ++ pins) z dd).run [] s2 _ H _ S2 (w a k.1)) (fun f s3 q => ?_) (fun _ _ q => False.elim q)
    have back : ∀ {σ3 : L2.St} {H3 : Hp} {Q : Unit → Shared → Prop}, Inv (X.suite a ((a, oe) :: (X.pn ++ pins))) [] σ3 H3 s3 → (∀ s4, Inv X pins (σ3.set i none) H3 s4 → Q () s4) →
      wpAny (model X.prog X.w) X.A (do bindName X.env n .none; unbindBehindTheSuite X.env n pos') Q X.xe s3 := fun J g => gone_ok (J.unsuite k.inv.ok) hN hi hln g
    match f, q with
    | .ret u, ⟨v, σ3, H3, J, q⟩ => exact back J fun s4 J4 => ⟨v, _, H3, J4, q⟩
    | .next, ⟨σ3, H3, J, q⟩ => exact back J fun s4 J4 => ⟨_, H3, J4, q⟩
    | .brk, ⟨σ3, H3, J, q⟩ => exact back J fun s4 J4 => ⟨_, H3, J4, q⟩
    | .cont, ⟨σ3, H3, J, q⟩ => exact back J fun s4 J4 => ⟨_, H3, J4, q⟩
/-- try: body / the clauses -/
theorem ps_tryG {body : List Stmt} {h₀ : ExceptHandler} {hds : List ExceptHandler} {wv : Ends → WX} {tb : WX → L2.TS} {pos : Pos}
    (hb : ∀ (W : WX) (pn : List (Addr × Obj)) (xe : Value → Shared → Prop), Takes (X.tr pn xe) W → PSs (X.tr pn xe) body (tb W)) (hh : Hds X (h₀ :: hds) wv)
    (hs : X.stack = X.env :: X.outer := by rfl) (hf : X.env.frame = some X.env.locals := by rfl) : PS X (.Try body (h₀ :: hds) [] [] pos) (fun D σ H => tb (wv D) D σ H) := by
  constructor
  intro pins s σ H D I h
  have ok := I.ok
  have hfr : X.A.frames = some (X.env :: X.outer) := ok.frames.trans (by rw [hs])
  let xe2 : Value → Shared → Prop := fun e s₁ => wpAny (model X.prog X.w) X.A (noteFrame e X.env) (fun _ s₂ => wpAny (model X.prog X.w) X.A (setFlight e none) (fun _ s₃ =>
    wpAny (model X.prog X.w) X.A (handleBy e X.env (h₀ :: hds)) (SP X pins D) X.xe s₃) X.xe s₂) X.xe s₁
  have tk : Takes (X.tr (X.pn ++ pins) xe2) (wv D) := by
    rintro u s' ⟨a, B, sI, pins', σ', H', cls, d, rfl, J, nb, up, sky, na, os, ag, w⟩
    have sky2 : Sky B (X.env :: X.outer) a (Zc cls d) X.env.locals s'.heap := hs ▸ sky
    refine Sky.land Zc.steady hfr hf sky2 fun h3 fl up3 => ?_
    exact hh pins D σ' H' cls d a { s' with heap := h3 } ⟨na, B, sI, J.ofTry ok, nb, up.trans up3, hs ▸ fl, os, ag⟩ w
  refine wpAny_Try_except (wpAny_mono ((hb (wv D) _ _ tk).run [] s σ H D (I.toTry _) h) (fun f s1 q => ?_) (fun _ _ q => q))
  match f, q with
  | .next, ⟨σ2, H2, J, q⟩ => exact wpAny_execs_nil ⟨σ2, H2, J.ofTry ok, q⟩
  | .ret u, ⟨v, σ2, H2, J, q⟩ => exact ⟨v, σ2, H2, J.ofTry ok, q⟩
  | .brk, ⟨σ2, H2, J, q⟩ => exact ⟨σ2, H2, J.ofTry ok, q⟩
  | .cont, ⟨σ2, H2, J, q⟩ => exact ⟨σ2, H2, J.ofTry ok, q⟩
end
end RM

set_option Elab.async false
set_option linter.all false
set_option maxRecDepth 100000
set_option maxHeartbeats 2000000
/-! sets of texts that can be walked: which texts, not their order -/
namespace RM
open PySem PySem.Spec PyProof.Rows L2 PySem.Froz
/-! ### the table: it rises, and its order is told -/
def Wk (w : World) (t : SetTable) : Prop := Ris t.place.toList ∧ (w.params.followText "set-order" = true ∨ t.led = true)
theorem Wk.of {w : World} {t u : SetTable} (k : Wk w t) (h : Ris t.place.toList → Ris u.place.toList) (e : u.led = t.led) : Wk w u := ⟨h k.1, k.2.imp_right fun l => by rw [e, l]⟩
theorem Wk.tail {w : World} {ep : Nat} {es : Array (Int × Value)} {t : SetTable} {b : Bool} (k : Wk w t) : Wk w (tailTx ep es t b).2.2 := by
  by_cases c : (!b && t.tooFull) = true
  · rw [tailTx, if_pos c]
    exact k.of (fun _ => relayAll_ris t es _) (relayAll_led t es _)
  · rw [tailTx, if_neg c]
    exact k
theorem Wk.add {w : World} {z : Int} {v : Value} {D : SD} (k : Wk w D.2.2) : Wk w (addTx z v D).2.2 := by
  rw [addTx]
  have k1 : Wk w (layNew D.2.2 D.1 z v).2.1 := k.of (layNew_ris D.2.2 D.1 z v) (layNew_led D.2.2 D.1 z v)
  by_cases c : (layNew D.2.2 D.1 z v).2.1.plain = true
  · rw [if_pos c]
    exact Wk.tail (t := { (layNew D.2.2 D.1 z v).2.1 with plain := false }) ⟨k1.1, k1.2⟩
  · rw [if_neg c]
    exact k1.tail
/-! ### what is known of such a set -/
structure Txs (P : Program) (w : World) (D : SD) (l : List Str) : Prop where
  ok : TxOk P w D l
  nd : l.Nodup
  wk : Wk w D.2.2
  few : l.length < scanBound
/-- at a stands a set of the texts l -/
def SX (P : Program) (w : World) (h : Heap) (a : Addr) (l : List Str) : Prop := ∃ D : SD, h.get? a = some (sObj "set" D) ∧ Txs P w D l
/-- an empty set as the world makes it -/
abbrev bareX (w : World) : Obj := { cls := .type "set", dict := none, data := .set #[] 0 (.fresh 0 0 (!w.params.followText "set-order")) }
section
variable {P : Program} {w : World} {h h' : Heap} {a : Addr} {l : List Str}
theorem SX.at (R : SX P w h a l) (k : ∀ o, h.get? a = some o → h'.get? a = some o) : SX P w h' a l := R.imp fun _ q => ⟨k _ q.1, q.2⟩
theorem SX.some (R : SX P w h a l) : ∃ o, h.get? a = some o := let ⟨_, e, _⟩ := R; ⟨_, e⟩
theorem sx_fresh (e : h.get? a = some (bareX w)) : SX P w h a [] := by
  refine ⟨(#[], 0, .fresh 0 0 (!w.params.followText "set-order")), e, .nil rfl, List.nodup_nil, ⟨List.Pairwise.nil, ?_⟩, by decide⟩
  by_cases c : w.params.followText "set-order" = true
  · exact .inl c
  · exact .inr (by show (!w.params.followText "set-order") = true; rw [Bool.not_eq_true] at c; rw [c]; rfl)
end
/-- k put to l, if it isn't there -/
def insX (k : Str) (l : List Str) : List Str := if k ∈ l then l else k :: l
theorem insX_mem {k x : Str} {l : List Str} : x ∈ insX k l ↔ x = k ∨ x ∈ l := by
  rw [insX]
  by_cases c : k ∈ l
  · rw [if_pos c]
    exact ⟨Or.inr, fun z => z.elim (fun e => e ▸ c) id⟩
  · rw [if_neg c, List.mem_cons]
theorem insX_len {k : Str} {l : List Str} : (insX k l).length ≤ l.length + 1 := by
  rw [insX]
  by_cases c : k ∈ l
  · rw [if_pos c]; omega
  · rw [if_neg c]; exact Nat.le_refl _
/-! ### a text put in -/
section
variable {P : Program} {w : World} {A : Around} {E : Value → Shared → Prop} {s : Shared} {a : Addr} {l : List Str} {k : Str} {u : Tok}
theorem texts_at {D : SD} (F : TxOk P w D l) (hk : k ∈ l) : ∃ j, List.findIdx? (fun e => (strKind P w).is k e.2) D.1.toList = some j := by
  obtain ⟨e, he, z⟩ := (F.mem k).mp hk
  rw [← Option.isSome_iff_exists, List.findIdx?_isSome, List.any_eq_true]
  exact ⟨e, he, z⟩
/-- one that is there already: nothing happens -/
theorem again_x {D : SD} {Q : Bool → Shared → Prop} (e : s.heap.get? a = some (sObj "set" D)) (F : Txs P w D l) (hk : k ∈ l) (q : Q false s) : wpAny (model P w) A (setAddHashed a (.str k u) (hashStr w k)) Q E s := by
  obtain ⟨j, hj⟩ := texts_at F.ok hk
  have few : D.1.size < scanBound := by rw [F.ok.sz]; exact F.few
  unfold setAddHashed setAddHashedIn
  refine wpAny_holding (wpAny_bind (wpAny_setState_of (es := D.1) (ep := D.2.1) (t := D.2.2) e rfl F.ok.fit ?_))
  dsimp only
  rw [byScan_of (knd := strKind P w) (x := Value.str k u) rfl few F.ok.el]
  rw [if_pos rfl]
  unfold setAddByScan
  refine wpAny_bind (wpAny_bind (wpAny_rule (wpAny_bind (wpAny_setScan_of (knd := strKind P w) (k := k) (es := D.1) (ep := D.2.1) (t := D.2.2) (is_str k u) e rfl F.ok.fit F.ok.el ?_))))
  rw [hj]
  exact wpAny_pure (wpAny_pure q)
/-- setAdd's step behind the hash -/
theorem put_x {Q : Bool → Shared → Prop} (R : SX P w s.heap a l) (room : l.length + 1 < scanBound) (q : ∀ b h', Heap.SameBut a s.heap h' → SX P w h' a (insX k l) → Q b { s with heap := h' }) :
    wpAny (model P w) A (setAddHashed a (.str k u) (hashStr w k)) Q E s := by
  obtain ⟨D, e, F⟩ := id R
  rw [insX] at q
  by_cases c : k ∈ l
  · rw [if_pos c] at q
    exact again_x e F c (q false s.heap (Heap.SameBut.refl a _) R)
  · rw [if_neg c] at q
    refine add_x e F.ok c room (q true _ (Heap.SameBut.update _ _ _) ⟨_, get_upd _ e rfl, add_ok u F.ok, List.nodup_cons.mpr ⟨c, F.nd⟩, F.wk.add, ?_⟩)
    rw [List.length_cons]
    exact room
/-- the whole of setAdd -/
theorem setAdd_x {Q : Bool → Shared → Prop} (R : SX P w s.heap a l) (room : l.length + 1 < scanBound) (q : ∀ b h', Heap.SameBut a s.heap h' → SX P w h' a (insX k l) → Q b { s with heap := h', toks := s.toks + 1 }) :
    wpAny (model P w) A (setAdd a (.str k u)) Q E s := by
  unfold setAdd
  exact wpAny_holding (wpAny_bind ((strKind P w).pyHash (is_str k u) (put_x (s := { s with toks := s.toks + 1 }) R room q)))
/-- s.add(text) -/
theorem call_add_x {Q : Value → Shared → Prop} (R : SX P w s.heap a l) (room : l.length + 1 < scanBound) (q : ∀ h', Heap.SameBut a s.heap h' → SX P w h' a (insX k l) → Q .none { s with heap := h', toks := s.toks + 1 }) :
    wpAny (model P w) A (call (.builtin "set.add") [.ref a, .str k u]) Q E s := by
  have ty : s.TypeIs (.ref a) "set" := let ⟨_, e, _⟩ := R; ⟨_, e, rfl⟩
  refine wpAny_call_entry F.slot_set_add ty F.entry_set_add ?_ (F.args_set_add_2 _ _)
  show wpAny _ _ (setAdd a (.str k u) >>= fun _ => ret Value.none) _ _ s
  exact wpAny_bind (setAdd_x R room fun _ h' sb r => wpAny_pure ⟨_, rfl, q h' sb r⟩)
end
/-! ### as a tracked thing -/
def SetX (P : Program) (w : World) (a : Addr) (l : List Str) : HO := .ext fun h => SX P w h a l
theorem setX_new {P : Program} {w : World} {H : Hp} {h : Heap} {a : Addr} {l : List Str} (R : SX P w h a l) : ObjOk P w H h a (SetX P w a l) := ⟨R, R.some, fun _ _ p k => SX.at p k⟩
section
variable {X : Cx} {pins : List (Addr × Obj)} {σ : L2.St} {H : Hp} {s : Shared}
theorem Txs.of {a : Addr} {l : List Str} (I : Inv X pins σ H s) (e : H a = some (SetX X.prog X.w a l)) : SX X.prog X.w s.heap a l := (I.hok a _ e).1
theorem addX_ok {E : Value → Shared → Prop} {A : Around} {D : Addr} {l : List Str} {k : Str} {u : Tok} {Q : Value → Shared → Prop} (I : Inv X pins σ H s) (hD : H D = some (SetX X.prog X.w D l)) (room : l.length + 1 < scanBound)
    (q : ∀ s', Inv X pins σ (upd H D (SetX X.prog X.w D (insX k l))) s' → Q .none s') : wpAny (model X.prog X.w) A (call (.builtin "set.add") [.ref D, .str k u]) Q E s :=
  call_add_x (Txs.of I hD) room fun _ sb R => q _ (I.write (by rw [hD]; trivial) (.inl rfl) (fun b o ne e => by rw [sb.2 b ne]; exact e) R.some (setX_new R))
end
end RM

set_option Elab.async false
set_option linter.all false
set_option maxRecDepth 100000
set_option maxHeartbeats 4000000
/-! set comprehensions, clause by clause: one theorem of a clause's loop, whatever stands behind its tests -/
namespace RM
open PySem PySem.Spec PyProof.Rows L2 PpSet
/-- the slots that the block keeps are known still -/
def Kept (σ σ' : L2.St) : Prop := ∀ (j : Nat) v, σ[j]? = some (some v) → σ'[j]? = some (some v)
theorem kept_wipe (σ : L2.St) (vs : List Nat) : Kept (wipe σ vs) σ := fun _ _ e => (wipe_some e).1
theorem kept_less {σ : L2.St} {vs ws : List Nat} (h : ∀ i ∈ ws, i ∈ vs) : Kept (wipe σ vs) (wipe σ ws) := fun j v e => by
  obtain ⟨e1, e2⟩ := wipe_some e
  rw [wipe_out fun z => e2 (h j z), e1]
/-- one turn's text: `work` behind the tests -/
def turnText (e : Expr) (k : Nat) (tg : Expr) (p : Pos) (ifs : List Expr) (work : Sem Unit) (it acc : Value) (env : Env) : Sem Fin :=
  standAt p >>= fun _ => pyNext it >>= fun r => match r with
    | none => pure (.done .next)
    | some v => letOwnedTupleGo tg it v >>= fun _ => assign tg env v >>= fun _ =>
      (forIn ifs true fun c r => if r = true then isTrue c env (eval c env) >>= fun ok => pure (ForInStep.yield ok) else pure (ForInStep.yield r)) >>= fun ok =>
        if ok = true then work >>= fun _ => again (.compLoop e k it acc env) else again (.compLoop e k it acc env)
section
variable {Y : Cx} {elt : Expr} {gens : List Comprehension} {scope : Scope} {pos : Pos} {k : Nat} {tg : Expr} {p : Pos} {ifs : List Expr} {work : Sem Unit} {it : Addr} {acc : Value} {pins : List (Addr × Obj)} {fp : List Addr} {tn : Nat → Heap → Prop} {J : It}
  {g : TG} {tt : TT} {wk : L2.St → Hp → (Hp → Prop) → Prop} {σ0 : L2.St} {vs : List Nat} {W : Nat → Nat → Hp → Prop} {fin : Hp → Prop} {R : Result → Shared → Prop}
theorem clause_loop (hY : Y.xe = fun _ _ => False) (hc : Y.calm = true) (he : compTurn (.SetComp elt gens scope pos) k (.ref it) acc Y.env = turnText (.SetComp elt gens scope pos) k tg p ifs work (.ref it) acc Y.env)
    (T : Turn Y.prog Y.w Y.K tg J fp it tn) (own : ∀ b ∈ fp, ∃ H, FpOk Y pins H b) (pg : PG Y tg g) (pt : PTs Y ifs tt)
    (pw : ∀ pl σ H N s, Inv Y (pins ++ pl) σ H s → wk σ H N → wpAny (model Y.prog Y.w) Y.A work (fun _ s' => ∃ σ' H', Inv Y (pins ++ pl) σ' H' s' ∧ Kept (wipe σ vs) σ' ∧ N H') (fun _ _ => False) s)
    (tu : Turns J g tt wk σ0 vs W fin) (hR : ∀ H s, Inv Y pins σ0 H s → fin H → R (.ok .next) s) {m i : Nat} {H : Hp} {s : Shared} (I : Inv Y pins σ0 H s) (st : tn i s.heap) (fr : ∀ b ∈ fp, H b = none) (w : W i m H) :
    codeAny (model Y.prog Y.w) Y.A (.compLoop (.SetComp elt gens scope pos) k (.ref it) acc Y.env) R s := by
  have out : ∀ {H : Hp}, (∀ b ∈ fp, H b = none) → ∀ b ∈ fp, FpOk Y pins H b := fun f b hb => let ⟨_, z⟩ := own b hb; ⟨f b hb, z.2⟩
  refine codeAny_loop rfl (fun n s' => ∃ i H', Inv Y pins σ0 H' s' ∧ tn i s'.heap ∧ (∀ b ∈ fp, H' b = none) ∧ W i n H') ?_ m ⟨i, H, I, st, fr, w⟩
  clear I st fr w
  rintro n s ⟨i, H, I, st, fr, w⟩
  show wpAny _ Y.A ((compTurn (.SetComp elt gens scope pos) k (.ref it) acc Y.env).onRaise fun x => noteFrame x Y.env >>= fun _ => theTreesLotGoes x) _ _ s
  refine wpAny_noted ?_
  rw [he, turnText]
  refine wpAny_bind (wpAny_standAt (wpAny_bind ?_))
  rcases tu i n H w with ⟨stop, q⟩ | ⟨go, N, hN, step⟩
  · refine thnF (T.done Y rfl rfl rfl hc i pins s σ0 H _ I (out fr) st stop) fun r s1 z => ?_
    rw [z.1]
    exact wpAny_pure (hR H s1 z.2 q)
  refine thnF (T.item Y rfl rfl rfl hc i pins s σ0 H _ I (out fr) st go) fun r s1 z => ?_
  obtain ⟨u, rfl, z⟩ := z
  refine wpAny_bind (thnF z fun _ s2 z => ?_)
  obtain ⟨x, H2, I2, rx, y, st2, fr2⟩ := z
  -- what a turn's end asks
  have fine : ∀ {σ' : L2.St} {H' : Hp} {s' : Shared}, Inv Y (pins ++ pinsAt fp s2.heap) σ' H' s' → Kept σ0 σ' → N H' → ∃ n', n' < n ∧ ∃ i H', Inv Y pins σ0 H' s' ∧ tn i s'.heap ∧ (∀ b ∈ fp, H' b = none) ∧ W i n' H' := by
    intro σ' H' s' I' kp nx
    obtain ⟨n', lt, w'⟩ := hN H' nx
    have stays : ∀ b ∈ fp, ∀ o, s2.heap.get? b = some o → s'.heap.get? b = some o ∧ H' b = none := fun b hb o eo => by
      obtain ⟨p1, p2, _⟩ := I'.pin (b, o) (List.mem_append.mpr (.inr (List.mem_append.mpr (.inr (mem_pinsAt hb eo)))))
      exact ⟨p1, p2⟩
    refine ⟨n', lt, i + 1, H', I'.unpinned.weak (I.len.trans I'.len.symm) kp, T.keep _ _ _ st2 fun b hb o eo => (stays b hb o eo).1, fun b hb => ?_, w'⟩
    obtain ⟨o, eo, _⟩ := T.obj _ _ st2 b hb
    exact (stays b hb o eo).2
  have pgr := pg.run _ s2 σ0 H2 x u _ (I2.pinned (out fr2) (T.obj _ _ st2)) rx (step x H2 y)
  rw [hY] at pgr
  refine wpAny_bind (thnF pgr fun _ s3 z => ?_)
  obtain ⟨σ3, H3, I3, e3, z⟩ := z
  have ptr := pt.run _ s3 σ3 H3 _ I3 z
  rw [hY] at ptr
  refine wpAny_bind (thnF ptr fun b s4 z => ?_)
  obtain ⟨H4, I4, z⟩ := z
  by_cases hb : b = true
  · rw [if_pos hb] at z ⊢
    refine wpAny_bind (thnF (pw _ σ3 H4 N s4 I4 z) fun _ s5 z => ?_)
    obtain ⟨σ5, H5, I5, kp, nx⟩ := z
    exact wpAny_pure ⟨rfl, fine I5 (e3 ▸ kp) nx⟩
  · rw [if_neg hb] at z ⊢
    exact wpAny_pure ⟨rfl, fine I4 (e3 ▸ kept_wipe σ3 vs) z⟩
end
/-- a clause's start: its iterator is asked for itself, or not; the loop then -/
theorem clause_start {P : Program} {w : World} {A : Around} {R : Result → Shared → Prop} {s : Shared} {elt : Expr} {gens : List Comprehension} {scope : Scope} {pos : Pos} {k : Nat} {g : Comprehension} {it acc : Value} {env : Env}
    (hg : gens[k]? = some g) (ha : g.is_async = 0) (self : ∀ (Q : Value → Shared → Prop) (E : Value → Shared → Prop), Q it s → wpAny (model P w) A (pyIter it) Q E s)
    (loop : codeAny (model P w) A (.compLoop (.SetComp elt gens scope pos) k it acc env) R s) : codeAny (model P w) A (.compStart (.SetComp elt gens scope pos) k it acc env) R s := by
  refine codeAny_of_tree ?_
  show wpAny _ A ((compStart (.SetComp elt gens scope pos) k it acc env).onRaise fun x => noteFrame x env >>= fun _ => standAt theWindowsPlace) _ _ s
  refine wpAny_notedAt ?_
  have hk : (clausesOf (.SetComp elt gens scope pos))[k]? = some g := hg
  unfold compStart
  rw [hk]
  have hn : ((some g).elim false fun c : Comprehension => c.is_async != 0) = false := by
    show (g.is_async != 0) = false
    rw [ha]; rfl
  rw [hn]
  show wpAny _ _ (ask >>= _) _ _ s
  refine wpAny_bind (wpAny_askSetting ?_)
  show wpAny _ _ (if w.params.followText "comprehension-iter-twice" = true then _ else _) _ _ s
  by_cases c : w.params.followText "comprehension-iter-twice" = true
  · rw [if_pos c]
    exact wpAny_bind (wpAny_pure (wpAny_pure ⟨rfl, loop⟩))
  · rw [if_neg c]
    exact wpAny_bind (wpAny_rule (wpAny_bind (wpAny_standAt (wpAny_bind (self _ _ (wpAny_pure ⟨rfl, loop⟩))))))
section
variable {X : Cx}
/-- in each block with this scope -/
abbrev InBlk (X : Cx) (scope : Scope) (F : Cx → Prop) : Prop := ∀ s H C cl fp, F (X.blk s H scope (compEnvC scope cl C X.env) fp)
/-- a new text is put to D -/
abbrev addsX (P : Program) (w : World) (D : Addr) (te : TE) : L2.St → Hp → (Hp → Prop) → Prop := fun σ H N => te σ H fun y H1 => ∃ (c : Str) (l : List Str), y = .str c ∧ H1 D = some (SetX P w D l) ∧ l.length + 1 < scanBound ∧ N (upd H1 D (SetX P w D (insX c l)))
/-- a set comprehension's reading: wk, what is done behind the first clause's tests -/
def tBlk (P : Program) (w : World) (wi : TI) (g : TG) (tt : TT) (wk : Addr → L2.St → Hp → (Hp → Prop) → Prop) (vs : List Nat) : TE := fun σ H Q => wi σ H fun J H1 => ∀ D, H1 D = none →
  ∃ W : Nat → Nat → Hp → Prop, (∃ m, W 0 m (upd H1 D (SetX P w D []))) ∧ Turns J g tt (wk D) (wipe σ vs) vs W (Q (.ref D))
theorem set_block {elt tg iter : Expr} {ifs : List Expr} {rest : List Comprehension} {scope : Scope} {own : List (Str × Nat)} {pos : Pos} {wi : TI} {g : TG} {tt : TT} {wk : Addr → L2.St → Hp → (Hp → Prop) → Prop} {work : Addr → Env → Sem Unit}
    (hc : X.calm = true) (hN : X.N.Nodup) (hi : PI X tg iter wi) (ok : BlkOk X.N X.env.scope scope own)
    (hg : InBlk X scope fun Y => PG Y tg g)
    (ht : InBlk X scope fun Y => PTs Y ifs tt)
    (he : ∀ it D env, compTurn (.SetComp elt (⟨tg, iter, ifs, 0⟩ :: rest) scope pos) 0 (.ref it) (.ref D) env = turnText (.SetComp elt (⟨tg, iter, ifs, 0⟩ :: rest) scope pos) 0 tg iter.pos ifs (work D env) (.ref it) (.ref D) env)
    (pw : ∀ (s0 : Shared) (H0 : Hp) (C : Addr) (cl : List (Str × Addr)) (fp : List Addr) (D : Addr) pins σ H N s, Inv (X.blk s0 H0 scope (compEnvC scope cl C X.env) fp) pins σ H s → wk D σ H N →
      wpAny (model X.prog X.w) X.A (work D (compEnvC scope cl C X.env)) (fun _ s' => ∃ σ' H', Inv (X.blk s0 H0 scope (compEnvC scope cl C X.env) fp) pins σ' H' s' ∧ Kept (wipe σ (own.map (·.2))) σ' ∧ N H') (fun _ _ => False) s)
    (hs : ∀ x, foldedSetIterable iter X.env x = pure x) : PE X (.SetComp elt (⟨tg, iter, ifs, 0⟩ :: rest) scope pos) (tBlk X.prog X.w wi g tt wk (own.map (·.2))) := by
  refine ⟨fun pins s σ H Q I h => ?_⟩
  rw [eval_SetComp]
  have free : ∀ y ∈ scope.names, y.2 = .free → ∃ c, X.env.cells.lookup y.1 = some c := fun y hy e => I.ok.has _ (ok.free y hy e)
  refine wpAny_comprehension_free (use := none) rfl hs (closure_ok free) ok.kind (fun y hy e => e ▸ ok.uniq y hy) (thn (hi.run pins s σ H _ I h) fun _ _ z => thn z fun _ s2 z => ?_)
  obtain ⟨it, fp, tn, J, H2, rfl, I2, T, st2, f2, q⟩ := z
  refine newSet_ok (newEnv_comp ?_)
  obtain ⟨W, ⟨m0, w0⟩, tu⟩ := q s2.heap.objs.size (I2.hok.fresh (Nat.le_refl _))
  have I3 := I2.laid (t' := s2.toks) (a := s2.heap.objs.size) (fun b o e => Heap.get?_push_of_some (bareX X.w) e) (Nat.le_refl _) (setX_new (sx_fresh (Heap.get?_push_size _ rfl)))
  have young : ∀ b ∈ fp, b < s2.heap.objs.size := fun b hb => let ⟨_, e, _⟩ := T.obj _ _ st2 b hb; Heap.lt_size e
  have st3 := T.keep 0 _ (s2.heap.push (bareX X.w)) st2 fun b _ o e => Heap.get?_push_of_some _ e
  have f3 : ∀ b ∈ fp, FpOk X pins (upd H2 s2.heap.objs.size (SetX X.prog X.w s2.heap.objs.size [])) b := fun b hb => ⟨by rw [upd_ne (Nat.ne_of_lt (young b hb))]; exact (f2 b hb).1, (f2 b hb).2⟩
  have old : ∀ b ∈ fp, b < (s2.heap.push (bareX X.w)).objs.size := fun b hb => by rw [Heap.size_push]; exact Nat.lt_succ_of_lt (young b hb)
  generalize upd H2 s2.heap.objs.size (SetX X.prog X.w s2.heap.objs.size []) = H3 at I3 f3 w0
  generalize s2.heap.objs.size = D at I3 tu ⊢
  generalize hs3 : ({ s2 with heap := s2.heap.push (bareX X.w) } : Shared) = s3 at I3
  have e3 : s3.heap = s2.heap.push (bareX X.w) := by rw [← hs3]
  rw [← e3] at st3 old
  have I4 := block_start I3 ok hN fun b hb => ⟨f3 b hb, old b hb⟩
  have st4 := T.keep 0 _ (pushCells (s3.heap.push { cls := .type "dict", data := .dict #[] }) scope.names) st3 fun b _ o e => pushCells_keeps _ _ _ _ (Heap.get?_push_of_some _ e)
  show codeAny _ _ (.compStart _ 0 (.ref it) (.ref D) (compEnvC scope (cellsFrom (s3.heap.objs.size + 1) scope.names (cloFrom X.env.cells scope.names [])) s3.heap.objs.size X.env)) _
    { s3 with heap := pushCells (s3.heap.push { cls := .type "dict", data := .dict #[] }) scope.names }
  refine clause_start rfl rfl (fun _ _ z => T.self X.A 0 _ _ _ st4 z) ?_
  refine clause_loop (Y := X.blk s3 H3 scope (compEnvC scope (cellsFrom (s3.heap.objs.size + 1) scope.names (cloFrom X.env.cells scope.names [])) s3.heap.objs.size X.env) fp) rfl hc (he _ _ _) T
    (fun b hb => ⟨H3, (f3 b hb).1, (I4.ok.exf b hb).1, I4.ok.exfs b hb, .inl hb, fun x c e => (I4.ok.exf b hb).2 x c e, fun p hp => (List.not_mem_nil (show p ∈ ([] : List (Addr × Obj)) from hp)).elim⟩) (hg _ _ _ _ _) (ht _ _ _ _ _) (fun pl σ' H' N s' I' z => pw _ _ _ _ _ D _ _ _ _ _ I' z) tu (fun H' s' I' q => ?_) I4 st4 (fun b hb => (f3 b hb).1) w0
  -- back in the def
  have J' := I3.call' (ch := fp) I'.os I'.base I'.hok I'.bare fun b hb => let ⟨_, z1, _, z3, z4, z5⟩ := f3 b hb; ⟨z3, z1, z4, z5⟩
  obtain ⟨m, hm, _⟩ := I'.loc
  obtain ⟨n0, n1, n2, n3, n4, n5⟩ := I3.fpOk (H' := H') (Nat.le_refl _) I'.free
  exact ⟨m, hm, fun h'' sb => ⟨.ref D, H', J'.turned (t' := s'.toks) (fun b o hb e => (sb.2 b hb).trans e) n0 n1 n3 n4 n5, rfl, q⟩⟩
/-- the element's text, then its add -/
def emitX (elt : Expr) (D : Addr) (env : Env) : Sem Unit := eval elt env >>= fun v => standAt elt.pos >>= fun _ => call (.builtin "set.add") [.ref D, v] >>= fun _ => pure ()
theorem emits {Y : Cx} {elt : Expr} {te : TE} {D : Addr} {vs : List Nat} (hY : Y.xe = fun _ _ => False) (he : PE Y elt te) {pins σ H N s} (I : Inv Y pins σ H s) (h : addsX Y.prog Y.w D te σ H N) :
    wpAny (model Y.prog Y.w) Y.A (emitX elt D Y.env) (fun _ s' => ∃ σ' H', Inv Y pins σ' H' s' ∧ Kept (wipe σ vs) σ' ∧ N H') (fun _ _ => False) s := by
  have r := he.run pins s σ H _ I h
  rw [hY] at r
  refine wpAny_bind (thnF r fun v s1 z => wpAny_bind (wpAny_standAt (wpAny_bind ?_)))
  obtain ⟨_, H1, I1, rv, c, l, rfl, e, room, nx⟩ := z
  obtain ⟨u, rfl⟩ := (show ∃ u, v = Value.str c u from rv)
  exact addX_ok I1 e room fun s2 I2 => wpAny_pure ⟨σ, _, I2, kept_wipe σ vs, nx⟩
/-- {elt for tg in iter if ..} -/
abbrev tScX (P : Program) (w : World) (wi : TI) (g : TG) (tt : TT) (te : TE) (vs : List Nat) : TE := tBlk P w wi g tt (fun D => addsX P w D te) vs
theorem pe_scX {elt tg iter : Expr} {ifs : List Expr} {scope : Scope} {own : List (Str × Nat)} {pos : Pos} {wi : TI} {g : TG} {tt : TT} {te : TE} (hc : X.calm = true) (hN : X.N.Nodup) (hi : PI X tg iter wi) (ok : BlkOk X.N X.env.scope scope own)
    (hg : InBlk X scope fun Y => PG Y tg g)
    (ht : InBlk X scope fun Y => PTs Y ifs tt)
    (he : InBlk X scope fun Y => PE Y elt te) (hs : ∀ x, foldedSetIterable iter X.env x = pure x := by intro _; rfl) :
    PE X (.SetComp elt [⟨tg, iter, ifs, 0⟩] scope pos) (tScX X.prog X.w wi g tt te (own.map (·.2))) :=
  set_block (work := emitX elt) hc hN hi ok hg ht (fun _ _ _ => rfl) (fun s0 H0 C cl fp D pins σ H N s I h => emits (Y := X.blk s0 H0 scope (compEnvC scope cl C X.env) fp) rfl (he _ _ _ _ _) I h) hs
/-- {elt for tg in iter if .. for tg1 in iter1 if ..}: vs1, the second target's slots -/
abbrev tScX2 (P : Program) (w : World) (wi : TI) (g : TG) (tt : TT) (wi1 : TI) (g1 : TG) (tt1 : TT) (te : TE) (vs vs1 : List Nat) : TE :=
  tBlk P w wi g tt (fun D σ H N => wi1 σ H fun J1 H1 => ∃ W1 : Nat → Nat → Hp → Prop, (∃ m, W1 0 m H1) ∧ Turns J1 g1 tt1 (addsX P w D te) (wipe σ vs1) vs1 W1 N) vs
def innerX (e : Expr) (iter1 : Expr) (D : Addr) (env : Env) : Sem Unit :=
  eval iter1 env >>= fun x => standAt iter1.pos >>= fun _ => foldedSetIterable iter1 env x >>= fun x => holding [x] (pyIter x) >>= fun t => runOwn (.compStart e 1 t (.ref D) env) env >>= fun _ => pure ()
theorem turn_inner {elt tg iter tg1 iter1 : Expr} {ifs ifs1 : List Expr} {scope : Scope} {pos : Pos} {it D : Addr} {env : Env} : compTurn (.SetComp elt [⟨tg, iter, ifs, 0⟩, ⟨tg1, iter1, ifs1, 0⟩] scope pos) 0 (.ref it) (.ref D) env =
    turnText (.SetComp elt [⟨tg, iter, ifs, 0⟩, ⟨tg1, iter1, ifs1, 0⟩] scope pos) 0 tg iter.pos ifs (innerX (.SetComp elt [⟨tg, iter, ifs, 0⟩, ⟨tg1, iter1, ifs1, 0⟩] scope pos) iter1 D env) (.ref it) (.ref D) env := by
  rw [turnText]
  simp only [innerX, bind_assoc, pure_bind]
  rfl
theorem pe_scX2 {elt tg iter tg1 iter1 : Expr} {ifs ifs1 : List Expr} {scope : Scope} {own : List (Str × Nat)} {vs1 : List Nat} {pos : Pos} {wi wi1 : TI} {g g1 : TG} {tt tt1 : TT} {te : TE} (hc : X.calm = true) (hN : X.N.Nodup) (hi : PI X tg iter wi) (ok : BlkOk X.N X.env.scope scope own) (hv : ∀ i ∈ vs1, i ∈ own.map (·.2))
    (hg : InBlk X scope fun Y => PG Y tg g)
    (ht : InBlk X scope fun Y => PTs Y ifs tt)
    (hi1 : InBlk X scope fun Y => PI Y tg1 iter1 wi1)
    (hg1 : InBlk X scope fun Y => PG Y tg1 g1)
    (ht1 : InBlk X scope fun Y => PTs Y ifs1 tt1)
    (he : InBlk X scope fun Y => PE Y elt te) (hs : ∀ x, foldedSetIterable iter X.env x = pure x := by intro _; rfl) (hs1 : ∀ env x, foldedSetIterable iter1 env x = pure x := by intro _ _; rfl) :
    PE X (.SetComp elt [⟨tg, iter, ifs, 0⟩, ⟨tg1, iter1, ifs1, 0⟩] scope pos) (tScX2 X.prog X.w wi g tt wi1 g1 tt1 te (own.map (·.2)) vs1) := by
  refine set_block (work := innerX (.SetComp elt [⟨tg, iter, ifs, 0⟩, ⟨tg1, iter1, ifs1, 0⟩] scope pos) iter1) hc hN hi ok hg ht (fun _ _ _ => turn_inner) (fun s0 H0 C cl fp D pins σ H N s I h => ?_) hs
  refine wpAny_bind (thnF ((hi1 s0 H0 C cl fp).run pins s σ H _ I h) fun x s1 z => wpAny_bind (wpAny_standAt (wpAny_bind (wpAny_of_eq (hs1 _ x) (wpAny_bind (wpAny_holding (thnF z fun t s2 z => ?_)))))))
  obtain ⟨it, fp1, tn, J, H2, rfl, I2, T, st, f, W, ⟨m, w0⟩, tu⟩ := z
  refine wpAny_bind (wpAny_runOwn ?_)
  rw [Around.mark_none]
  exact clause_start rfl rfl (fun _ _ z => T.self X.A 0 _ _ _ st z) (clause_loop (Y := X.blk s0 H0 scope (compEnvC scope cl C X.env) fp) rfl hc (work := emitX elt D (compEnvC scope cl C X.env)) rfl T (fun b hb => ⟨H2, f b hb⟩) (hg1 _ _ _ _ _) (ht1 _ _ _ _ _)
    (fun pl σ' H' N' s' I' z => emits (Y := X.blk s0 H0 scope (compEnvC scope cl C X.env) fp) rfl (he _ _ _ _ _) I' z) tu (fun H' s' I' nx => wpAny_pure ⟨_, H', I', kept_less hv, nx⟩) (I2.weak (wipe_length _ _) (kept_wipe σ vs1)) st (fun b hb => (f b hb).1) w0)
end
end RM

set_option Elab.async false
set_option linter.all false
set_option maxRecDepth 100000
set_option maxHeartbeats 2000000
/-! sorted(a set of texts) -/
namespace RM
open PySem PySem.Spec PyProof.Rows L2 PySem.Froz
/-! ### texts among values -/
def Text (v : Value) : Prop := ∃ k u, v = .str k u
theorem texts_are : ∀ {l : List Value}, (∀ v ∈ l, Text v) → StrsAre l (l.map strOf)
  | [], _ => .nil
  | _ :: _, h => by
    obtain ⟨h1, h2⟩ := List.forall_mem_cons.mp h
    obtain ⟨k, u, rfl⟩ := h1
    exact .cons k u (texts_are h2)
/-- as many, and nothing lacks: the same -/
theorem perm_of_sub : ∀ {l m : List Str}, l.Nodup → (∀ k ∈ l, k ∈ m) → m.length ≤ l.length → m.Perm l
  | [], m, _, _, h => by rw [List.eq_nil_of_length_eq_zero (Nat.le_zero.mp h)]
  | a :: l, m, nd, sub, h => by
    have ha := sub a List.mem_cons_self
    have el := List.length_erase_of_mem ha
    have ep := List.length_pos_of_mem ha
    obtain ⟨na, nd⟩ := List.nodup_cons.mp nd
    refine (List.perm_cons_erase ha).trans ((perm_of_sub nd (fun k hk => ?_) ?_).cons a)
    · have ne : k ≠ a := by rintro rfl; exact na hk
      exact (List.mem_erase_of_ne ne).mpr (sub k (List.mem_cons_of_mem _ hk))
    · rw [List.length_cons] at h; omega
theorem Txs.values {P : Program} {w : World} {D : SD} {l : List Str} (F : Txs P w D l) {vs : List Value} (p : vs.Perm (D.1.toList.map (·.2))) : StrsAre vs (vs.map strOf) ∧ (vs.map strOf).Perm l := by
  have shape : ∀ {k : Str} {v : Value}, (strKind P w).is k v = true → ∃ u, v = .str k u := fun h => Value.isStrOf_shape h
  refine ⟨texts_are fun v hv => ?_, perm_of_sub F.nd (fun k hk => ?_) ?_⟩
  · obtain ⟨e, he, rfl⟩ := List.mem_map.mp (p.mem_iff.mp hv)
    obtain ⟨⟨k, h1, _⟩, _⟩ := F.ok.el e he
    exact ⟨k, shape h1⟩
  · obtain ⟨e, he, h1⟩ := (F.ok.mem k).mp hk
    obtain ⟨u, h2⟩ := shape h1
    exact List.mem_map.mpr ⟨.str k u, p.mem_iff.mpr (List.mem_map.mpr ⟨e, he, h2⟩), rfl⟩
  · rw [List.length_map, p.length_eq, List.length_map, Array.length_toList, F.ok.sz]
    exact Nat.le_refl _
/-! ### sorted, of whatever gives texts -/
section
variable {P : Program} {w : World} {A : Around} {E : Value → Shared → Prop} {s : Shared}
theorem sorted_texts {x : Value} {ks : List Str} {Q : Value → Shared → Prop} (few : ks.length ≤ 1000)
    (gives : wpAny (model P w) A.in1 (collect x) (fun vs s1 => StrsAre vs (vs.map strOf) ∧ (vs.map strOf).Perm ks ∧
      ∀ ys us h' c, StrsAre us ys → ys.Perm ks → sortedS ys = true → (∀ b o, s1.heap.get? b = some o → h'.get? b = some o) → h'.get? s1.heap.objs.size = some (seqObj "list" us.toArray c) → Q (.ref s1.heap.objs.size) { s1 with heap := h' }) E s) :
    wpAny (model P w) A (call (.builtin "sorted") [x]) Q E s := by
  refine Calls.call_function_entry kind_sorted plain_sorted entry_sorted (args_sorted1 _) ?_
  unfold Builtin.«sorted»
  refine wpAny_bind (m := checkCount "sorted" 1 1 _) (wpAny_pure (wpAny_bind (thn gives fun vs s1 z => ?_)))
  obtain ⟨hS, pk, q⟩ := z
  have sz : vs.length ≤ sizeLine := by
    have e := pk.length_eq
    rw [List.length_map] at e
    rw [e, sizeLine_eq]; omega
  refine wpAny_bind (wpAny_newList ?_ sz)
  have at_ : (s1.heap.push (seqObj "list" vs.toArray 0)).get? s1.heap.objs.size = some (seqObj "list" vs.toArray 0) := Heap.get?_push_size _ rfl
  refine wpAny_bind (wpAny_holding (wpAny_call_entry slot_list_sort ⟨_, at_, rfl⟩ entry_list_sort (list_sort_treeKAny strKind_oneLt at_ hS.keysOf (fun _ _ _ e => keyKind_strs (e ▸ hS)) sz fun st' hp hs => ⟨_, rfl, ?_⟩) (args_list_sort _)))
  obtain ⟨ys, h1, h2, h3⟩ := sorted_out_str hS hp hs
  obtain ⟨c, hc⟩ := sortedHeap_at (vs := vs) (out := (arrOf st').map (·.2)) at_
  refine wpAny_pure ⟨_, rfl, q ys _ _ c h1 (h2.trans pk) h3 (fun b o e => ?_) (by rw [Array.toArray_toList]; exact hc)⟩
  have lt := Heap.lt_size e
  rw [sortedHeap_old (Nat.ne_of_lt lt) (by rw [size_push']; exact Nat.lt_succ_of_lt lt)]
  exact Heap.get?_push_of_some _ e
end
def rSortX (P : Program) (w : World) : List V → Hp → VK → Prop := fun xs H Q => ∃ (a : Addr) (l : List Str), xs = [V.ref a] ∧ H a = some (SetX P w a l) ∧ l.length ≤ 1000 ∧
  ∀ (ks : List Str) (p : Addr), ks.Perm l → l.Nodup → sortedS ks = true → H p = none → Q (.ref p) (upd H p (.lst (ks.map V.str)))
theorem cr_sortX {X : Cx} (hc : X.calm = true) : CallR X (.builtin "sorted") (rSortX X.prog X.w) := by
  rintro pins s σ H xs us Q I r ⟨a, l, rfl, e, few, q⟩
  rw [Vals.ref1 r]
  obtain ⟨D, ho, F⟩ := Txs.of I e
  refine sorted_texts few (collect_set (A := X.A.in1) (es := D.1) (ep := D.2.1) (t := D.2.2) (I.ok.hd hc) ⟨_, ho, rfl, rfl⟩ F.ok.fit (by rw [F.ok.sz]; exact F.few) F.wk.1 F.wk.2 fun s1 vs keep _ gs os pm => ?_)
  obtain ⟨t1, t2⟩ := F.values pm
  refine ⟨t1, t2, fun ys us' h' c h1 h2 h3 keep' at_ => ?_⟩
  have I1 : Inv X pins σ H s1 := I.call' (ch := []) os (Un.kept keep) (I.hok.kept keep) (by rw [gs]; exact I.bare) (fun _ z => nomatch z)
  have sz : (ys.map V.str).length ≤ sizeLine := by rw [List.length_map, h2.length_eq, sizeLine_eq]; omega
  exact ⟨.ref s1.heap.objs.size, _, I1.laid (t' := s1.toks) (o := .lst (ys.map V.str)) keep' (Nat.le_refl _) ⟨sz, us', c, vals_of_strs h1, at_⟩, rfl, q ys _ h2 F.nd h3 (I1.hok.fresh (Nat.le_refl _))⟩
end RM

set_option Elab.async false
set_option linter.all false
set_option maxRecDepth 100000
set_option maxHeartbeats 4000000
/-! set(a list of texts) -/
namespace RM
open PySem PySem.Spec PyProof.Rows L2 PySem.Froz
/-- the texts r put to l, one after another -/
def pour : List Str → List Str → List Str
  | [], l => l
  | k :: r, l => pour r (insX k l)
theorem pour_mem {k : Str} : ∀ {r l : List Str}, k ∈ pour r l ↔ k ∈ r ∨ k ∈ l
  | [], l => by simp [pour]
  | a :: r, l => by rw [pour, pour_mem, insX_mem, List.mem_cons]; grind
theorem pour_len : ∀ {r l : List Str}, (pour r l).length ≤ r.length + l.length
  | [], l => by simp [pour]
  | a :: r, l => by
    have := pour_len (r := r) (l := insX a l)
    have := insX_len (k := a) (l := l)
    rw [pour, List.length_cons]
    omega
section
variable {P : Program} {w : World} {A : Around} {R : Result → Shared → Prop} {I S : Addr} {s : Shared}
/-- one turn of the builtin's loop -/
theorem loop_turn (h : wpAny (model P w) A.in1 (pyNext (.ref I)) (fun r s1 => match r with
      | none => R (.ok (.ret .none)) s1
      | some v => wpAny (model P w) A.in1 (setAdd S v) (fun _ s2 => codeAny (model P w) A (.builtin "set.update.loop" ⟨[.ref S, .ref I], []⟩) R s2) (fun e s' => R (.error e) s') s1) (fun e s' => R (.error e) s') s) :
    codeAny (model P w) A (.builtin "set.update.loop" ⟨[.ref S, .ref I], []⟩) R s := by
  refine codeAny_builtin F.entry_set_update_loop ?_
  rw [Around.under_plainId F.plain_set_update_loop _]
  show wpAny _ A.in1 (pyNext (.ref I) >>= _) _ _ s
  refine wpAny_bind (wpAny_mono h (fun r s1 z => ?_) fun _ _ z => z)
  match r, z with
  | none, z => exact wpAny_pure z
  | some v, z => exact wpAny_bind (wpAny_holding (wpAny_mono z (fun _ _ y => wpAny_pure ⟨plainId_quiet F.plain_set_update_loop _, y⟩) fun _ _ y => y))
variable {fp wr : List Addr} {G : Array GenState → Array GenState → Prop} {n : Nat} {Pv : Nat → Value → Prop} {St : Nat → Shared → Prop}
theorem loop_x (W : WalksS P w A.in1 I fp wr G n Pv St) (hS : S ∉ fp) {zs : List Str} (hn : n = zs.length) (hv : ∀ i v, Pv i v → ∃ k u, zs[i]? = some k ∧ v = .str k u) :
    ∀ (r : List Str) (i : Nat) (l : List Str) (s : Shared), zs.drop i = r → i ≤ zs.length → St i s → SX P w s.heap S l → l.length + r.length < scanBound →
      (∀ s', Moved (S :: wr) G s s' → SX P w s'.heap S (pour r l) → R (.ok (.ret .none)) s') → codeAny (model P w) A (.builtin "set.update.loop" ⟨[.ref S, .ref I], []⟩) R s := by
  have out : S ∉ wr := fun h => hS (W.sub _ h)
  have more : ∀ b ∈ wr, b ∈ S :: wr := fun _ hb => List.mem_cons_of_mem _ hb
  intro r
  induction r with
  | nil =>
    intro i l s hd hi st sx _ q
    have e : i = n := by have := List.drop_eq_nil_iff.mp hd; omega
    subst e
    refine loop_turn (W.done s _ _ st fun s1 mv => ?_)
    exact q s1 (mv.mono more) (sx.at fun o e => mv.heap S o out e)
  | cons z r ih =>
    intro i l s hd hi st sx room q
    rw [List.length_cons] at room
    have lt : i < n := by
      have := congrArg List.length hd
      rw [List.length_drop, List.length_cons] at this
      omega
    have hz : zs[i]? = some z := by rw [← List.head?_drop, hd]; rfl
    have hd' : zs.drop (i + 1) = r := by rw [← List.tail_drop, hd]; rfl
    refine loop_turn (W.item i s _ _ lt st fun v s1 hp st1 mv => ?_)
    obtain ⟨k, u, hk, rfl⟩ := hv i v hp
    obtain rfl : z = k := by rw [hz] at hk; exact Option.some.inj hk
    refine setAdd_x (sx.at fun o e => mv.heap S o out e) (by omega) fun _ h' sb sx2 => ?_
    have ne : ∀ b ∈ fp, b ≠ S := fun b hb e => hS (e ▸ hb)
    refine ih (i + 1) _ _ hd' (by omega) (W.frame _ s1 _ _ st1 (Nat.le_succ _) fun b hb o e => by rw [sb.2 b (ne b hb)]; exact e) sx2 (by have := insX_len (k := z) (l := l); omega) fun s2 mv2 sx3 => ?_
    refine q s2 (Moved.trans W.gtrans ((mv.mono more).then_heap (Nat.le_succ _) fun b o hb e => ?_) mv2) sx3
    rw [sb.2 b fun e => hb (e ▸ List.mem_cons_self)]
    exact e
end
section
variable {P : Program} {w : World} {A : Around} {E : Value → Shared → Prop} {s : Shared} {S l : Addr} {items : Array Value} {zs : List Str}
/-- the values of a list of texts, place by place -/
theorem text_at (ht : StrsAre items.toList zs) {i : Nat} {v : Value} (e : items[i]? = some v) : ∃ k u, zs[i]? = some k ∧ v = .str k u := by
  rw [← Array.getElem?_toList] at e
  obtain ⟨k, u, rfl⟩ := ht.all v (List.mem_of_getElem? e)
  refine ⟨k, u, ?_, rfl⟩
  rw [← ht.strs, List.getElem?_map, e]
  rfl
theorem no_set {a : Addr} {Q : Bool → Shared → Prop} (ty : s.TypeIs (.ref a) "list") (q : Q false s) : wpAny (model P w) A (Builtin.Frozenset.isAnySet (.ref a)) Q E s := by
  unfold Builtin.Frozenset.isAnySet
  refine wpAny_bind (wpAny_isInstance ty F.sub_list_set ?_)
  exact wpAny_isInstance ty F.sub_list_frozenset q
/-- an empty set is filled from a list of texts -/
theorem update_x {name : String} {Q : Unit → Shared → Prop} (hh : A.handled = none) (hS : s.heap.get? S = some (bareX w)) (hl : s.heap.IsList l items) (ht : StrsAre items.toList zs) (room : zs.length < scanBound)
    (q : ∀ s', (∀ b o, b ≠ S → s.heap.get? b = some o → s'.heap.get? b = some o) → s'.gens = s.gens → s'.drawn = s.drawn → s'.os = s.os → SX P w s'.heap S (pour zs []) → Q () s') :
    wpAny (model P w) A (Builtin.Frozenset.updateFrom name S (.ref l)) Q E s := by
  have sz : items.size = zs.length := by rw [← Array.length_toList]; exact ht.length
  have ltS := Heap.lt_size hS
  have ty : s.TypeIs (.ref l) "list" := let ⟨_, e, c, _⟩ := hl; ⟨_, e, c⟩
  have ltl : l < s.heap.objs.size := let ⟨_, e, _⟩ := hl; Heap.lt_size e
  have neSl : S ≠ l := by
    rintro rfl
    obtain ⟨o, ho, hcl, _⟩ := hl
    rw [hS] at ho
    cases ho
    exact absurd (show Value.type "set" = Value.type "list" from hcl) (by decide)
  unfold Builtin.Frozenset.updateFrom
  refine wpAny_bind (no_set ty ?_)
  rw [if_neg Bool.false_ne_true]
  refine wpAny_bind (wpAny_typeOf ty ?_)
  rw [if_neg (by decide)]
  refine wpAny_bind (wpAny_pyIter_list hl (wpAny_bind (wpAny_runValue ?_)))
  have W := (Walks.list (prog := P) (w := w) (A := A.in1) (by simp [hh]) s.heap.objs.size l (Nat.ne_of_lt ltl) items).toS
  refine loop_x W ?_ sz (fun i v e => text_at ht e) zs 0 [] _ rfl (Nat.zero_le _) ⟨⟨_, Heap.get?_push_size _ rfl, rfl, rfl⟩, hl.push _⟩ (sx_fresh (Heap.get?_push_of_some _ hS)) (by simp; omega) fun s' mv sx => ?_
  · simp only [List.mem_cons, List.not_mem_nil, or_false, not_or]
    exact ⟨Nat.ne_of_lt ltS, neSl⟩
  · refine wpAny_pure (q s' (fun b o ne e => mv.heap b o ?_ (Heap.get?_push_of_some _ e)) mv.gens mv.drawn mv.os sx)
    simp only [List.mem_cons, List.not_mem_nil, or_false, not_or]
    exact ⟨ne, Nat.ne_of_lt (Heap.lt_size e)⟩
theorem init_x {Q : PySem.Fin → Shared → Prop} (hh : A.handled = none) (hS : s.heap.get? S = some (bareX w)) (hl : s.heap.IsList l items) (ht : StrsAre items.toList zs) (room : zs.length < scanBound)
    (q : ∀ s', (∀ b o, b ≠ S → s.heap.get? b = some o → s'.heap.get? b = some o) → s'.gens = s.gens → s'.drawn = s.drawn → s'.os = s.os → SX P w s'.heap S (pour zs []) → Q (.done (.ret .none)) s') :
    wpAny (model P w) A (Builtin.«set.__init__» ⟨[.ref S, .ref l], []⟩) Q E s := by
  have ty : s.TypeIs (.ref S) "set" := ⟨_, hS, rfl⟩
  unfold Builtin.«set.__init__» noKeywords
  generalize hU : @Builtin.Frozenset.updateFrom = U
  wp_walk
  subst hU
  refine update_x hh hS hl ht room fun s' k1 k2 k3 k4 sx => ?_
  exact wpAny_pure (q s' k1 k2 k3 k4 sx)
/-- what `set(l)` hands back -/
theorem call_set_x {Q : Value → Shared → Prop} (hh : A.handled = none) (hl : s.heap.IsList l items) (ht : StrsAre items.toList zs) (room : zs.length < scanBound)
    (q : ∀ s', (∀ b o, s.heap.get? b = some o → s'.heap.get? b = some o) → s'.gens = s.gens → s'.drawn = s.drawn → s'.os = s.os → SX P w s'.heap s.heap.objs.size (pour zs []) → Q (.ref s.heap.objs.size) s') :
    wpAny (model P w) A (call (.type "set") [.ref l]) Q E s := by
  obtain ⟨_, _, line⟩ := F.called_set.mro
  have maker := F.called_set.made
  have below := F.called_set.sub
  have plain := F.called_set.notType
  have can := F.called_set.canCreate
  have count := F.typeCall_set_1 (.ref l)
  refine wpAny_call (codeAny_of_tree (wpAny_pure ⟨Code.quiet_builtin _ (by decide +kernel), codeAny_builtin F.entry_type_call ?_⟩))
  rw [Around.under_plain (weight_type_call_type "set" [.ref l] []) rfl]
  repeat (any_goals (first | assumption | wp_step))
  refine codeAny_mono (code_set_led1 (.ref l) (E := E) (Q₁ := fun v s1 => v = .ref s.heap.objs.size ∧ s1 = { s with heap := s.heap.push (bareX w) }) ⟨rfl, rfl⟩) fun r s1 z => ?_
  match r, z with
  | .error _, z => exact z
  | .ok .next, z => exact z.elim
  | .ok .brk, z => exact z.elim
  | .ok .cont, z => exact z.elim
  | .ok (.ret _), z =>
  obtain ⟨rfl, rfl⟩ := z
  have hS : (s.heap.push (bareX w)).get? s.heap.objs.size = some (bareX w) := Heap.get?_push_size _ rfl
  have ty : Shared.TypeIs { s with heap := s.heap.push (bareX w) } (.ref s.heap.objs.size) "set" := ⟨_, hS, rfl⟩
  have first := F.called_set.init.lookup
  have bound := F.called_set.init.bind (.ref s.heap.objs.size)
  repeat (any_goals (first | assumption | wp_step))
  refine codeAny_mono (codeAny_call_builtin (R := wants (fun v s2 => v = .none ∧ Q (.ref s.heap.objs.size) s2) E) F.called_set.init.plain F.entry_set_init (check_set_init_1 ty ?_)) fun r s2 z => ?_
  · refine init_x ?_ hS (hl.push _) ht room fun s2 k1 k2 k3 k4 sx => ⟨rfl, q s2 (fun b o e => k1 b o (Nat.ne_of_lt (Heap.lt_size e)) (Heap.get?_push_of_some _ e)) k2 k3 k4 sx⟩
    simp [hh]
  · match r, z with
    | .error _, z => exact z
    | .ok .next, z => exact z.elim
    | .ok .brk, z => exact z.elim
    | .ok .cont, z => exact z.elim
    | .ok (.ret _), z =>
    obtain ⟨rfl, qq⟩ := z
    repeat (any_goals (first | assumption | wp_step))
end
/-! ### over the tracked heap -/
def rSetL (P : Program) (w : World) (K : PySem.W.Frag) : List V → Hp → VK → Prop := fun xs H Q => ∃ (a : Addr) (zs : List Str), xs = [V.ref a] ∧ SqL K H a (zs.map V.str) ∧ zs.length + 1 < scanBound ∧
  ∀ (l : List Str) (p : Addr), l.length ≤ zs.length → (∀ k, k ∈ l ↔ k ∈ zs) → H p = none → Q (.ref p) (upd H p (SetX P w p l))
theorem cr_setL {X : Cx} (hc : X.calm = true) : CallR X (.type "set") (rSetL X.prog X.w X.K) := by
  rintro pins s σ H xs us Q I r ⟨a, zs, rfl, hs, hb, q⟩
  rw [Vals.ref1 r]
  obtain ⟨its, rv, hl, hz⟩ := I.list hs
  refine call_set_x (I.ok.hd hc) hl.isList (show StrsAre its.toArray.toList zs from rv.strs) (by omega) fun s' k1 k2 k3 k4 sx => ?_
  obtain ⟨h', _, _, t', _⟩ := s'
  cases k2
  cases k3
  cases k4
  have len := pour_len (r := zs) (l := [])
  exact ⟨.ref s.heap.objs.size, _, I.laid (t' := t') k1 (Nat.le_refl _) (setX_new sx), rfl, q _ _ (by simpa using len) (fun k => by rw [pour_mem]; simp) (I.hok.fresh (Nat.le_refl _))⟩
end RM

set_option Elab.async false
set_option linter.all false
set_option maxRecDepth 100000
set_option maxHeartbeats 2000000
/-! own == of instances -/
namespace RM
open PySem PySem.Spec PyProof.Rows L2
section
variable (P : Program) (w : World) (K : PySem.W.Frag) (mg : Str → Option Value) (base : Heap)
/-- an own special method, met by an operator -/
def Own (k : Nat) (C : Addr) (m : Str) (sp : Sp) : Prop :=
  ∃ (f : Addr) (fd : FuncData) (ps : List Str), FnOk P w K mg base CX0 k f fd ps sp ∧ PySem.W.findIn K (.ref C) m = some (some (.ref f)) ∧ PySem.W.isFn K (.ref f) = true ∧ Binds K fd ps []
end
section
variable {P : Program} {w : World} {K : PySem.W.Frag} {mg : Str → Option Value} {base : Heap} {k : Nat} {m x : Str} {C : Addr} {sp : Sp}
theorem own_0 {qual : Str} {st : Stmt} {N ps : List Str} (F : ∃ fd, FunD K m qual (defArgs st) (defBody st) (defScope st) [] [] (He.ma K (He.ga K x) m) fd) (hs : spcB K x m = true) (S : FnScope N ps (defScope st))
    (hb : ∀ (kV doc pm : Value) (an : Option Addr) (cdv ct : Value) (us : List Value), us.length = ps.length → bindArgs (PySem.W.fnOf m qual (defArgs st) (defBody st) (defScope st) .none kV doc pm an cdv ct) ⟨us, []⟩ = pure (ps.zip us))
    (len : ∀ vs H Q E, sp vs H Q E → vs.length = ps.length) (h : Body0 P w K mg base N qual st (He.ma K (He.ga K x) m) k sp) : Own P w K mg base (k + 1) (He.ga K x) m sp :=
  let ⟨fd, F⟩ := F
  ⟨_, fd, ps, fn_0 F S len h, (spcB_ok hs).1, (spcB_ok hs).2, F.bindsN hb⟩
end
theorem room64 {k : Nat} {A : Around} (hr : Room k A) : A.units + 64 < cLine := by have := hr.un; omega
theorem not_ni {z : V} {u : Value} (r : RelV z u) : u ≠ .notImplemented := by
  intro e
  subst e
  cases z <;> simp [L2.RelV] at r
/-- x == y, the two of one own class -/
def rOwn (C : Addr) (sp : Sp) : R2 := fun x y H Q => ∃ a b dx dy fs gs, x = .ref a ∧ y = .ref b ∧ H a = some (.ins C dx fs) ∧ H b = some (.ins C dy gs) ∧ sp [x, y] H Q E0
section
variable {X : Cx} {k j : Nat} {C : Addr} {sp : Sp}
/-- a def called with what stands for vs -/
theorem ask_def {f : Addr} {fd : FuncData} {ps : List Str} {pins : List (Addr × Obj)} {σ : L2.St} {H : Hp} {s : Shared} {vs : List V} {us : List Value} {Q : VK} (F : FnOk X.prog X.w X.K X.mg X.base CX0 k f fd ps sp) (B : Binds X.K fd ps []) (hr : Room k X.A)
    (I : Inv X pins σ H s) (r : Vals vs us) (same : us.length = vs.length) (h : sp vs H Q E0) : wpAny (model X.prog X.w) X.A (call (.ref f) us) (EP X pins σ Q) X.xe s := by
  have given := B s us I.kIn
  rw [List.append_nil] at given
  refine wpAny_call (codeAny_mono (F.run X.A X.stack s H ⟨us, []⟩ us vs _ E0 hr I.env0 (given (same.trans (F.len _ _ _ _ h))) r h) fun out s1 z => ?_)
  match out, z with
  | .ok (.ret _), z => exact I.after z
  | .error _, z => exact pass0 pins σ H s _ s1 I z
  | .ok .next, z => exact z.elim
  | .ok .brk, z => exact z.elim
  | .ok .cont, z => exact z.elim
theorem op_ownEq (c : Own X.prog X.w X.K X.mg X.base k C "__eq__" sp) (hr : Room j X.A) (hk : k ≤ j := by omega) : OpR X (compareOp .Eq) (rOwn C sp) := by
  rintro pins s σ H _ _ v u Q I rx ry ⟨a, b, dx, dy, fs, gs, rfl, rfl, ha, hb, hsp⟩
  obtain ⟨f, fd, ps, F, hs, hf, B⟩ := c
  cases rx
  cases ry
  obtain ⟨_, ia, _⟩ := ins_get I.hok ha
  obtain ⟨_, ib, _⟩ := ins_get I.hok hb
  obtain ⟨_, la, _⟩ := ia.look
  obtain ⟨_, lb, _⟩ := ib.look
  have un := (hr.mono hk).un
  refine PySem.W.cmp_K (op := .Eq) (tb := .ref C) (by omega) I.fr.choose_spec I.ok.mod.kin la lb.type (by simp [PySem.W.notFirst]) hs hf (thn (ask_def (vs := [.ref a, .ref b]) F B (hr.mono hk) I (.cons rfl (.cons rfl .nil)) rfl hsp) fun r s1 z => ?_)
  obtain ⟨z, H1, I1, rz, q⟩ := z
  have some := not_ni rz
  cases r <;> first | exact absurd rfl some | exact ⟨z, H1, I1, rz, q⟩
end
/-- a sequence as it stands in a block -/
theorem pi_seqA' {X : Cx} {K : PySem.W.Frag} {tg l : Expr} {tl : TE} (hK : X.K = K) (hl : PE X l tl) : PI X tg l (iSeqA K tl) := by subst hK; exact pi_seqA hl
end RM

set_option Elab.async false
set_option linter.all false
set_option maxRecDepth 100000
set_option maxHeartbeats 2000000
/-! own + of two own classes -/
namespace RM
open PySem PySem.Spec PyProof.Rows L2
section
open PySem.W
variable {M : Model} {h : Heap} {K : Frag} {C f : Addr} {nm : String} {r : Option Value}
/-- the class's slot is a def -/
theorem slot_def (X : K.In h) (hs : findIn K (.ref C) (PySem.dunder nm) = some (some (.ref f))) (hr : findIn K (.ref C) (dunderR nm) = some r) (rr : r = none ∨ ∃ g, r = some (.ref g)) : Looks M h (numberSlotInPython (.ref C) nm) true := by
  intro A Q E s k q
  unfold numberSlotInPython
  refine wpAny_bind (looks_findIn X hs A _ E s k ?_)
  refine wpAny_bind (wpAny_pure ?_)
  refine wpAny_bind (looks_findIn X hr A _ E s k ?_)
  rcases rr with rfl | ⟨g, rfl⟩
  · exact wpAny_bind (wpAny_pure (by rw [if_pos (by rfl)]; exact wpAny_pure q))
  · exact wpAny_bind (wpAny_pure (by rw [if_pos (by rfl)]; exact wpAny_pure q))
theorem self_first (hc : selfFirst K C = true) : ∃ cd rest, clsIn K C = some cd ∧ cd.mro = .ref C :: rest := by
  unfold selfFirst at hc
  cases e : clsIn K C with
  | none => rw [e] at hc; cases hc
  | some cd =>
    rw [e] at hc
    cases q : cd.mro with
    | nil => simp [q] at hc
    | cons a r =>
      have : a = .ref C := by simpa [q] using hc
      exact ⟨cd, r, rfl, by rw [q, this]⟩
theorem binop_two {prog : Program} {w : World} {A : Around} {E : Value → Shared → Prop} {s : Shared} {x L D fD : Addr} {h₀ : Heap} {m : Str → Option Value} {ox : Obj} {od : Option Obj} {b : Value} {rC rD : Option Value} {Q : Value → Shared → Prop}
    (F : Fr h₀ L s.heap m) (X₀ : K.In h₀) (I : InstAt s.heap x ox C od) (hb : Looks (model prog w) s.heap (typeOf b) (.ref D)) (hne : D ≠ C) (hc : selfFirst K C = true) (hd : selfFirst K D = true) (hs : findIn K (.ref C) (PySem.dunder "add") = some (some (.ref f)))
    (hf : isFn K (.ref f) = true) (hsD : findIn K (.ref D) (PySem.dunder "add") = some (some (.ref fD))) (hrC : findIn K (.ref C) (dunderR "add") = some rC) (hrD : findIn K (.ref D) (dunderR "add") = some rD) (rC' : rC = none ∨ ∃ g, rC = some (.ref g)) (rD' : rD = none ∨ ∃ g, rD = some (.ref g))
    (sub : subIn K (.ref D) (.ref C) = some false) (h : wpAny (model prog w) A (call (.ref f) [.ref x, b]) (PySem.W.CmpBack Q) E s) : wpAny (model prog w) A (binaryOp .Add (.ref x) b) Q E s := by
  have X := X₀.keeps F.keep
  obtain ⟨cd, rest, hcd, hm⟩ := self_first hc
  obtain ⟨dd, rest2, hdd, hm2⟩ := self_first hd
  unfold binaryOp
  refine wpAny_holding (wpAny_bind ?_)
  unfold binaryOp1
  refine wpAny_bind (I.type.here (wpAny_bind (hb.here (wpAny_bind ((fills_K X hcd hm hs).here ?_)))))
  have nb : (Value.ref C == Value.ref D) = false := by simpa using fun e => hne e.symm
  simp only [nb, Bool.false_eq_true, if_false]
  refine wpAny_bind ((fills_K X hdd hm2 hsD).here ?_)
  simp only [Bool.and_self, if_true]
  refine wpAny_bind ((looks_subIn X sub).here ?_)
  simp only [Bool.false_eq_true, if_false, Bool.not_false, Bool.and_self, if_true]
  refine wpAny_bind ((slot_def X hs hrC rC').here ?_)
  simp only [if_true]
  refine wpAny_bind ((slot_def X hsD hrD rD').here ?_)
  simp only [Bool.not_true, Bool.false_eq_true, if_false]
  refine wpAny_bind (m := tryMethod (.ref x) _ b) ?_
  unfold tryMethod
  refine wpAny_bind (special_fn X I hs (beq_iff_eq.mp hf) (wpAny_mono h (fun v s' hv => ?_) fun _ _ e => e))
  cases v <;> first | exact hv.elim | exact wpAny_pure (wpAny_pure (wpAny_pure hv))
end
/-- what the head tells for x + y, x of the class at C, y of the one at D -/
def twoB (K : PySem.W.Frag) (x y : Str) : Bool :=
  let C := He.ga K x; let D := He.ga K y
  PySem.W.selfFirst K C && (PySem.W.selfFirst K D && (decide (D ≠ C) && (spcB K x "__add__" && (spcB K y "__add__" && (decide (PySem.W.subIn K (.ref D) (.ref C) = some false) &&
    ((He.eqO (PySem.W.findIn K (.ref C) "__radd__") (some none) || spcB K x "__radd__") && (He.eqO (PySem.W.findIn K (.ref D) "__radd__") (some none) || spcB K y "__radd__")))))))
/-- x + y, two own classes; E: what is wanted of an exception -/
def rAddX (C D : Addr) (sp : Sp) (E : XK) : R2 := fun x y H Q => ∃ a b dx dy fs gs, x = .ref a ∧ y = .ref b ∧ H a = some (.ins C dx fs) ∧ H b = some (.ins D dy gs) ∧ sp [x, y] H Q E
/-- an own special method that may raise -/
def OwnX (P : Program) (w : World) (K : PySem.W.Frag) (mg : Str → Option Value) (base : Heap) (k : Nat) (C : Addr) (m : Str) (sp : Sp) : Prop :=
  ∃ (f : Addr) (fd : FuncData) (ps : List Str), FnOk P w K mg base (L2.CX P w) k f fd ps sp ∧ PySem.W.findIn K (.ref C) m = some (some (.ref f)) ∧ PySem.W.isFn K (.ref f) = true ∧ Binds K fd ps []
theorem own_X {P : Program} {w : World} {K : PySem.W.Frag} {mg : Str → Option Value} {base : Heap} {k : Nat} {m x : Str} {sp : Sp} {qual : Str} {st : Stmt} {N ps : List Str} (F : ∃ fd, FunD K m qual (defArgs st) (defBody st) (defScope st) [] [] (He.ma K (He.ga K x) m) fd) (hs : spcB K x m = true) (S : FnScope N ps (defScope st))
    (hb : ∀ (kV doc pm : Value) (an : Option Addr) (cdv ct : Value) (us : List Value), us.length = ps.length → bindArgs (PySem.W.fnOf m qual (defArgs st) (defBody st) (defScope st) .none kV doc pm an cdv ct) ⟨us, []⟩ = pure (ps.zip us))
    (len : ∀ vs H Q E, sp vs H Q E → vs.length = ps.length) (h : BodyX P w K mg base N qual st (He.ma K (He.ga K x) m) k sp) : OwnX P w K mg base (k + 1) (He.ga K x) m sp :=
  let ⟨fd, F⟩ := F
  ⟨_, fd, ps, F.ok S len h, (spcB_ok hs).1, (spcB_ok hs).2, F.bindsN hb⟩
theorem radd_of {K : PySem.W.Frag} {x : Str} (h : (He.eqO (PySem.W.findIn K (.ref (He.ga K x)) "__radd__") (some none) || spcB K x "__radd__") = true) :
    ∃ r, PySem.W.findIn K (.ref (He.ga K x)) (dunderR "add") = some r ∧ (r = none ∨ ∃ g, r = some (.ref g)) := by
  rcases Bool.or_eq_true_iff.mp h with h | h
  · exact ⟨none, He.eqO_ok h, .inl rfl⟩
  · exact ⟨_, (spcB_ok h).1, .inr ⟨_, rfl⟩⟩
theorem op_addX {X : Cx} {k j : Nat} {x y : Str} {sp : Sp} {E : XK} (two : twoB X.K x y = true) (c : OwnX X.prog X.w X.K X.mg X.base k (He.ga X.K x) "__add__" sp) (hx : Passes (L2.CX X.prog X.w) X E) (hr : Room j X.A) (hk : k ≤ j := by omega) :
    OpR X (binaryOp .Add) (rAddX (He.ga X.K x) (He.ga X.K y) sp E) := by
  rintro pins s σ H _ _ v u Q I rx ry ⟨a, b, dx, dy, fs, gs, rfl, rfl, ha, hb, hsp⟩
  obtain ⟨f, fd, ps, F, hs, hf, B⟩ := c
  obtain ⟨t1, two⟩ := He.ba two
  obtain ⟨t2, two⟩ := He.ba two
  obtain ⟨t3, two⟩ := He.ba two
  obtain ⟨t4, two⟩ := He.ba two
  obtain ⟨t5, two⟩ := He.ba two
  obtain ⟨t6, two⟩ := He.ba two
  obtain ⟨t7, t8⟩ := He.ba two
  obtain ⟨rC, hrC, kC⟩ := radd_of t7
  obtain ⟨rD, hrD, kD⟩ := radd_of t8
  cases rx
  cases ry
  obtain ⟨_, ia, _⟩ := ins_get I.hok ha
  obtain ⟨_, ib, _⟩ := ins_get I.hok hb
  obtain ⟨_, la, _⟩ := ia.look
  obtain ⟨_, lb, _⟩ := ib.look
  refine binop_two I.fr.choose_spec I.ok.mod.kin la lb.type (of_decide_eq_true t3) t1 t2 hs hf (spcB_ok t5).1 hrC hrD kC kD (of_decide_eq_true t6) ?_
  refine thn (run_fn (vs := [.ref a, .ref b]) (dvs := []) (ds := []) F (hr.mono hk) B .nil hx I (.cons rfl (.cons rfl .nil)) hsp) fun r s1 z => ?_
  obtain ⟨z, H1, I1, rz, q⟩ := z
  have some := not_ni rz
  cases r <;> first | exact absurd rfl some | exact ⟨z, H1, I1, rz, q⟩
end RM

set_option Elab.async false
set_option linter.all false
set_option maxRecDepth 100000
set_option maxHeartbeats 2000000
/-! own special methods: in, [], len, +=, [] =, + of one class -/
namespace RM
open PySem PySem.Spec PyProof.Rows L2
section
variable (P : Program) (w : World) (K : PySem.W.Frag) (mg : Str → Option Value) (base : Heap) (CX : CXT)
/-- an own special method, whatever it lets out -/
def OwnC (k : Nat) (C : Addr) (m : Str) (sp : Sp) : Prop :=
  ∃ (f : Addr) (fd : FuncData) (ps : List Str), FnOk P w K mg base CX k f fd ps sp ∧ PySem.W.findIn K (.ref C) m = some (some (.ref f)) ∧ PySem.W.isFn K (.ref f) = true ∧ Binds K fd ps [] ∧ PySem.W.fnIn K f = true
end
section
variable {P : Program} {w : World} {K : PySem.W.Frag} {mg : Str → Option Value} {base : Heap} {k : Nat} {m x : Str} {C : Addr} {sp : Sp} {CX : CXT}
theorem fn_in {q : Str} {ar : Arguments} {bd : List Stmt} {sc : Scope} {dv : List V} {kw : List (Str × V)} {f : Addr} {fd : FuncData} (F : FunD K m q ar bd sc dv kw f fd) : PySem.W.fnIn K f = true := by
  obtain ⟨_, _, _, _, _, _, _, _, _, _, _, lk, _⟩ := F.ex
  unfold PySem.W.fnIn
  rw [lk]
theorem own_C0 {qual : Str} {st : Stmt} {N ps : List Str} (F : ∃ fd, FunD K m qual (defArgs st) (defBody st) (defScope st) [] [] (He.ma K (He.ga K x) m) fd) (hs : spcB K x m = true) (S : FnScope N ps (defScope st))
    (hb : ∀ (kV doc pm : Value) (an : Option Addr) (cdv ct : Value) (us : List Value), us.length = ps.length → bindArgs (PySem.W.fnOf m qual (defArgs st) (defBody st) (defScope st) .none kV doc pm an cdv ct) ⟨us, []⟩ = pure (ps.zip us))
    (len : ∀ vs H Q E, sp vs H Q E → vs.length = ps.length) (h : Body0 P w K mg base N qual st (He.ma K (He.ga K x) m) k sp) : OwnC P w K mg base CX0 (k + 1) (He.ga K x) m sp :=
  let ⟨fd, F⟩ := F
  ⟨_, fd, ps, fn_0 F S len h, (spcB_ok hs).1, (spcB_ok hs).2, F.bindsN hb, fn_in F⟩
theorem own_CX {qual : Str} {st : Stmt} {N ps : List Str} (F : ∃ fd, FunD K m qual (defArgs st) (defBody st) (defScope st) [] [] (He.ma K (He.ga K x) m) fd) (hs : spcB K x m = true) (S : FnScope N ps (defScope st))
    (hb : ∀ (kV doc pm : Value) (an : Option Addr) (cdv ct : Value) (us : List Value), us.length = ps.length → bindArgs (PySem.W.fnOf m qual (defArgs st) (defBody st) (defScope st) .none kV doc pm an cdv ct) ⟨us, []⟩ = pure (ps.zip us))
    (len : ∀ vs H Q E, sp vs H Q E → vs.length = ps.length) (h : BodyX P w K mg base N qual st (He.ma K (He.ga K x) m) k sp) : OwnC P w K mg base (L2.CX P w) (k + 1) (He.ga K x) m sp :=
  let ⟨fd, F⟩ := F
  ⟨_, fd, ps, F.ok S len h, (spcB_ok hs).1, (spcB_ok hs).2, F.bindsN hb, fn_in F⟩
/-- nothing is let out where nothing is wished of it -/
theorem fn_calm {f : Addr} {fd : FuncData} {ps : List Str} (F : FnOk P w K mg base (L2.CX P w) k f fd ps sp) : FnOk P w K mg base CX0 k f fd ps (fun vs H Q _ => sp vs H Q E0) := by
  refine ⟨fun vs H Q E h => F.len vs H Q E0 h, fun A outer s H args us vs Q E hr e0 hb r h => ?_⟩
  refine codeAny_mono (F.run A outer s H args us vs Q E0 hr e0 hb r h) fun out s1 z => ?_
  match out, z with
  | .ok (.ret _), z => exact z
  | .ok .next, z => exact z
  | .ok .brk, z => exact z
  | .ok .cont, z => exact z
  | .error e, z =>
    obtain ⟨_, _, _, _, _, _, _, _, _, _, _, _, no⟩ := z
    exact no.elim
theorem Cal.calm {x : Str} (c : Cal P w K mg base (L2.CX P w) k x sp) : Cal P w K mg base CX0 k x (fun vs H Q _ => sp vs H Q E0) := let ⟨f, fd, ps, F, a, b, d⟩ := c; ⟨f, fd, ps, fn_calm F, a, b, d⟩
theorem Met.calm (c : Met P w K mg base (L2.CX P w) k C m sp) : Met P w K mg base CX0 k C m (fun vs H Q _ => sp vs H Q E0) := let ⟨f, fd, ps, a, b, F, d⟩ := c; ⟨f, fd, ps, a, b, fn_calm F, d⟩
theorem Mak.calm {x : Str} (c : Mak P w K mg base (L2.CX P w) k x C sp) : Mak P w K mg base CX0 k x C (fun vs H Q _ => sp vs H Q E0) := let ⟨f, fd, ps, a, F, b, d⟩ := c; ⟨f, fd, ps, a, fn_calm F, b, d⟩
theorem OwnC.calm (c : OwnC P w K mg base (L2.CX P w) k C m sp) : OwnC P w K mg base CX0 k C m (fun vs H Q _ => sp vs H Q E0) := let ⟨f, fd, ps, F, a⟩ := c; ⟨f, fd, ps, fn_calm F, a⟩
theorem OwnX.calm (c : OwnX P w K mg base k C m sp) : Own P w K mg base k C m (fun vs H Q _ => sp vs H Q E0) := let ⟨f, fd, ps, F, a⟩ := c; ⟨f, fd, ps, fn_calm F, a⟩
end
section
variable {X : Cx} {CX : CXT} {k j : Nat} {C : Addr} {sp : Sp} {E : XK}
/-- a def called one level in -/
theorem ask_in1 {f : Addr} {fd : FuncData} {ps : List Str} {pins : List (Addr × Obj)} {σ : L2.St} {H : Hp} {s : Shared} {vs : List V} {us : List Value} {Q : VK} (F : FnOk X.prog X.w X.K X.mg X.base CX k f fd ps sp) (B : Binds X.K fd ps []) (hr : Room (k + 1) X.A) (hx : Passes CX X E)
    (I : Inv X pins σ H s) (r : Vals vs us) (h : sp vs H Q E) : wpAny (model X.prog X.w) X.A.in1 (call (.ref f) us) (EP X pins σ Q) X.xe s := by
  have len : us.length = ps.length := by rw [← r.length]; exact F.len _ _ _ _ h
  have given := B s us I.kIn (by rw [List.append_nil]; exact len)
  rw [List.append_nil] at given
  refine wpAny_call (codeAny_mono (F.run X.A.in1 X.stack s H ⟨us, []⟩ us vs Q E hr.in1 I.env0.in1 given r h) fun out s1 z => ?_)
  match out, z with
  | .ok (.ret _), z => exact I.after z
  | .error e, z => exact hx pins σ H s e s1 I z
  | .ok .next, z => exact z.elim
  | .ok .brk, z => exact z.elim
  | .ok .cont, z => exact z.elim
/-- x in y, y of an own class -/
def rInO (C : Addr) (sp : Sp) (E : XK) (neg : Bool) : R2 := fun x y H Q => ∃ b dy gs, y = .ref b ∧ H b = some (.ins C dy gs) ∧ sp [y, x] H (fun v H' => ∃ c, v = .bl c ∧ Q (.bl (if neg then !c else c)) H') E
theorem op_inO (c : OwnC X.prog X.w X.K X.mg X.base CX k C "__contains__" sp) (hx : Passes CX X E) (hr : Room j X.A) (hk : k ≤ j := by omega) : OpR X (compareOp .In) (rInO C sp E false) := by
  rintro pins s σ H x _ v u Q I rx ry ⟨b, dy, gs, rfl, hb, h⟩
  obtain ⟨f, fd, ps, F, hs, hf, B, _⟩ := c
  cases ry
  obtain ⟨_, ib, _⟩ := ins_get I.hok hb
  obtain ⟨_, lb, _⟩ := ib.look
  refine PySem.W.in_K I.fr.choose_spec I.ok.mod.kin lb hs hf (thn (run_fn (vs := [.ref b, x]) (dvs := []) (ds := []) F (hr.mono hk) B .nil hx I (.cons rfl (.cons rx .nil)) h) fun r s1 z => ?_)
  obtain ⟨_, H1, I1, rz, c, rfl, q⟩ := z
  cases rz
  exact wpAny_truthy_bool ⟨.bl c, H1, I1, rfl, q⟩
theorem op_ninO (c : OwnC X.prog X.w X.K X.mg X.base CX k C "__contains__" sp) (hx : Passes CX X E) (hr : Room j X.A) (hk : k ≤ j := by omega) : OpR X (compareOp .NotIn) (rInO C sp E true) := by
  rintro pins s σ H x _ v u Q I rx ry ⟨b, dy, gs, rfl, hb, h⟩
  obtain ⟨f, fd, ps, F, hs, hf, B, _⟩ := c
  cases ry
  obtain ⟨_, ib, _⟩ := ins_get I.hok hb
  obtain ⟨_, lb, _⟩ := ib.look
  refine PySem.W.notIn_K I.fr.choose_spec I.ok.mod.kin lb hs hf (thn (run_fn (vs := [.ref b, x]) (dvs := []) (ds := []) F (hr.mono hk) B .nil hx I (.cons rfl (.cons rx .nil)) h) fun r s1 z => ?_)
  obtain ⟨_, H1, I1, rz, c, rfl, q⟩ := z
  cases rz
  exact wpAny_truthy_bool ⟨.bl (!c), H1, I1, rfl, q⟩
/-- a[b], a of an own class -/
def tGetO (C : Addr) (sp : Sp) (E : XK) (ta tb : TE) : TE := fun σ H Q => ta σ H fun x H1 => tb σ H1 fun y H2 => ∃ a dx fs, x = .ref a ∧ H2 a = some (.ins C dx fs) ∧ sp [x, y] H2 Q E
theorem pe_getO {a b : Expr} {ta tb : TE} {pos : Pos} (c : OwnC X.prog X.w X.K X.mg X.base CX k C "__getitem__" sp) (hx : Passes CX X E) (hr : Room j X.A) (ha : PE X a ta) (hb : PE X b tb) (hk : k + 1 ≤ j := by omega)
    (hsl : ∀ v u, subscripted b true v u = runValue (.builtin "lifetime.subscript" ⟨[v, u], []⟩) := by intro _ _; rfl) : PE X (.Subscript a b pos) (tGetO C sp E ta tb) := by
  obtain ⟨f, fd, ps, F, hs, hf, B, hn⟩ := c
  refine ⟨fun pins s σ H Q I h => ?_⟩
  refine Subscript_ (thn (ha.run pins s σ H _ I h) fun v s1 ⟨x, H1, I1, rx, h1⟩ => thn (hb.run pins s1 σ H1 _ I1 h1) fun u s2 ⟨y, H2, I2, ry, h2⟩ => ?_)
  obtain ⟨p, dx, fs, rfl, hp, h3⟩ := h2
  cases rx
  obtain ⟨_, ip, _⟩ := ins_get I2.hok hp
  obtain ⟨_, lp, _⟩ := ip.look
  exact PySem.W.sub_K I2.fr.choose_spec I2.ok.mod.kin lp hs hn hf (ask_in1 (vs := [.ref p, y]) F B (hr.mono hk) hx I2 (.cons rfl (.cons ry .nil)) h3) (hsl _ _)
/-- len(x), x of an own class -/
theorem call_lenO (c : OwnC X.prog X.w X.K X.mg X.base CX k C "__len__" sp) (hx : Passes CX X E) (hr : Room j X.A) (hk : k + 1 ≤ j := by omega) :
    CallR X (.builtin "len") (fun xs H Q => ∃ a dx fs, xs = [.ref a] ∧ H a = some (.ins C dx fs) ∧ sp [.ref a] H (fun v H' => ∃ n : Int, v = .int n ∧ 0 ≤ n ∧ n < 2 ^ 63 ∧ Q (.int n) H') E) := by
  rintro pins s σ H xs us Q I r ⟨a, dx, fs, rfl, ha, h⟩
  obtain ⟨f, fd, ps, F, hs, hf, B, _⟩ := c
  obtain rfl := Vals.ref1 r
  obtain ⟨_, ia, _⟩ := ins_get I.hok ha
  obtain ⟨_, la, _⟩ := ia.look
  refine PySem.W.len_K I.fr.choose_spec I.ok.mod.kin la hs hf (thn (ask_in1 (vs := [.ref a]) F B (hr.mono hk) hx I (.cons rfl .nil) h) fun r s1 z => ?_)
  obtain ⟨_, H1, I1, rz, n, rfl, n0, n1, q⟩ := z
  obtain ⟨t, rfl⟩ := rz
  exact ⟨⟨n0, n1⟩, .int n, H1, I1.tok _, ⟨_, rfl⟩, q⟩
/-- x += y, x of an own class -/
def rIadO (C : Addr) (sp : Sp) (E : XK) : R2 := fun x y H Q => ∃ a dx fs, x = .ref a ∧ H a = some (.ins C dx fs) ∧ sp [x, y] H Q E
theorem in_addO (c : OwnC X.prog X.w X.K X.mg X.base CX k C "__iadd__" sp) (sf : PySem.W.selfFirst X.K C = true) (hx : Passes CX X E) (hr : Room j X.A) (hk : k ≤ j := by omega) : InOp X .Add (rIadO C sp E) := by
  rintro pins s σ H _ y u v Q I rx ry ⟨a, dx, fs, rfl, ha, h⟩
  obtain ⟨f, fd, ps, F, hs, hf, B, _⟩ := c
  cases rx
  obtain ⟨_, ia, _⟩ := ins_get I.hok ha
  obtain ⟨_, la, _⟩ := ia.look
  refine PySem.W.ksp_inplace I.fr.choose_spec I.ok.mod.kin la sf hs hf (thn (run_fn (vs := [.ref a, y]) (dvs := []) (ds := []) F (hr.mono hk) B .nil hx I (.cons rfl (.cons ry .nil)) h) fun r s1 z => ?_)
  obtain ⟨z, H1, I1, rz, q⟩ := z
  have some := not_ni rz
  cases r <;> first | exact absurd rfl some | exact ⟨z, H1, I1, rz, q⟩
/-- x + y, both of one own class -/
def rAddS (C : Addr) (sp : Sp) (E : XK) : R2 := fun x y H Q => ∃ a b dx dy fs gs, x = .ref a ∧ y = .ref b ∧ H a = some (.ins C dx fs) ∧ H b = some (.ins C dy gs) ∧ sp [x, y] H Q E
theorem op_addS (c : OwnC X.prog X.w X.K X.mg X.base CX k C "__add__" sp) (sf : PySem.W.selfFirst X.K C = true) (hx : Passes CX X E) (hr : Room j X.A) (hk : k ≤ j := by omega) : OpR X (binaryOp .Add) (rAddS C sp E) := by
  rintro pins s σ H _ _ v u Q I rx ry ⟨a, b, dx, dy, fs, gs, rfl, rfl, ha, hb, h⟩
  obtain ⟨f, fd, ps, F, hs, hf, B, _⟩ := c
  cases rx
  cases ry
  obtain ⟨_, ia, _⟩ := ins_get I.hok ha
  obtain ⟨_, ib, _⟩ := ins_get I.hok hb
  obtain ⟨_, la, _⟩ := ia.look
  obtain ⟨_, lb, _⟩ := ib.look
  refine PySem.W.binop_K I.fr.choose_spec I.ok.mod.kin la lb.type sf hs hf (thn (run_fn (vs := [.ref a, .ref b]) (dvs := []) (ds := []) F (hr.mono hk) B .nil hx I (.cons rfl (.cons rfl .nil)) h) fun r s1 z => ?_)
  obtain ⟨z, H1, I1, rz, q⟩ := z
  have some := not_ni rz
  cases r <;> first | exact absurd rfl some | exact ⟨z, H1, I1, rz, q⟩
end
theorem two_first {K : PySem.W.Frag} {x y : Str} (h : twoB K x y = true) : PySem.W.selfFirst K (He.ga K x) = true ∧ PySem.W.selfFirst K (He.ga K y) = true := let ⟨a, b⟩ := He.ba h; ⟨a, (He.ba b).1⟩
theorem op_addG {X : Cx} {CX : CXT} {k j : Nat} {x y : Str} {sp : Sp} {E : XK} (two : twoB X.K x y = true) (c : ∃ (f : Addr) (fd : FuncData) (ps : List Str), FnOk X.prog X.w X.K X.mg X.base CX k f fd ps sp ∧ PySem.W.findIn X.K (.ref (He.ga X.K x)) "__add__" = some (some (.ref f)) ∧ PySem.W.isFn X.K (.ref f) = true ∧ Binds X.K fd ps []) (hx : Passes CX X E) (hr : Room j X.A) (hk : k ≤ j := by omega) :
    OpR X (binaryOp .Add) (rAddX (He.ga X.K x) (He.ga X.K y) sp E) := by
  rintro pins s σ H _ _ v u Q I rx ry ⟨a, b, dx, dy, fs, gs, rfl, rfl, ha, hb, hsp⟩
  obtain ⟨f, fd, ps, F, hs, hf, B⟩ := c
  obtain ⟨t1, two⟩ := He.ba two
  obtain ⟨t2, two⟩ := He.ba two
  obtain ⟨t3, two⟩ := He.ba two
  obtain ⟨t4, two⟩ := He.ba two
  obtain ⟨t5, two⟩ := He.ba two
  obtain ⟨t6, two⟩ := He.ba two
  obtain ⟨t7, t8⟩ := He.ba two
  obtain ⟨rC, hrC, kC⟩ := radd_of t7
  obtain ⟨rD, hrD, kD⟩ := radd_of t8
  cases rx
  cases ry
  obtain ⟨_, ia, _⟩ := ins_get I.hok ha
  obtain ⟨_, ib, _⟩ := ins_get I.hok hb
  obtain ⟨_, la, _⟩ := ia.look
  obtain ⟨_, lb, _⟩ := ib.look
  refine binop_two I.fr.choose_spec I.ok.mod.kin la lb.type (of_decide_eq_true t3) t1 t2 hs hf (spcB_ok t5).1 hrC hrD kC kD (of_decide_eq_true t6) ?_
  refine thn (run_fn (vs := [.ref a, .ref b]) (dvs := []) (ds := []) F (hr.mono hk) B .nil hx I (.cons rfl (.cons rfl .nil)) hsp) fun r s1 z => ?_
  obtain ⟨z, H1, I1, rz, q⟩ := z
  have some := not_ni rz
  cases r <;> first | exact absurd rfl some | exact ⟨z, H1, I1, rz, q⟩
end RM

set_option Elab.async false
set_option linter.all false
set_option maxRecDepth 100000
set_option maxHeartbeats 2000000
/-! x != y of an own class with == alone -/
namespace RM
open PySem PySem.Spec PyProof.Rows L2
section
open PySem.W
variable {prog : Program} {w : World} {A : Around} {E : Value → Shared → Prop} {s : Shared} {K : Frag} {x y C L f : Addr} {h₀ : Heap} {m : Str → Option Value} {ox : Obj} {od : Option Obj}
theorem check_ne {M : Model} {Q : Unit → Shared → Prop} (X : K.In s.heap) (I : InstAt s.heap x ox C od) (hsub : subIn K (.ref C) (.type "object") = some true) {b : Value} (hq : Q () s) :
    wpAny M A (checkBuiltinCall "object.__ne__" ⟨[.ref x, b], []⟩) Q E s := by
  have ha := F.cmpArgs_ne (.ref x) b
  simp only [checkBuiltinCall, F.cmpKind_ne, F.cmpSplit_ne]
  refine wpAny_bind ?_
  simp only [isInstance]
  refine wpAny_bind (I.type.here ((looks_subIn X hsub).here ?_))
  simp only [Bool.not_true, Bool.false_eq_true, if_false]
  cases hsig : Manifest.signature? "object.__ne__" with
  | none => exact wpAny_pure hq
  | some sig =>
    simp only [argsOk, hsig] at ha
    have h2 : Bind.checkArgs "object.__ne__" sig ⟨[.ref x, b], []⟩ = pure () := ha
    show wpAny M A (Bind.checkArgs "object.__ne__" sig ⟨[.ref x, b], []⟩) Q E _
    rw [h2]
    exact wpAny_pure hq
theorem objNe_own {Q : Fin → Shared → Prop} (X : K.In s.heap) (I : InstAt s.heap x ox C od) (he : findIn K (.ref C) "__eq__" = some (some (.ref f))) (hf : isFn K (.ref f) = true) (hu : A.units < cLine)
    (h : wpAny (model prog w) A (call (.ref f) [.ref x, .ref y]) (fun v s' => ∃ b, v = .bool b ∧ Q (.done (.ret (.bool (!b)))) s') E s) : wpAny (model prog w) A (Builtin.«object.__ne__» ⟨[.ref x, .ref y], []⟩) Q E s := by
  unfold Builtin.«object.__ne__»
  repeat (first
    | with_reducible refine wpAny_cRoomFor hu ?_
    | (refine wpAny_bind (m := callSpecialIfBound? (.ref x) (Str.ofString "__eq__") [.ref y]) (ifBound_K X I he hf (wpAny_mono h (fun r s' hr => by
          obtain ⟨b, rfl, hq⟩ := hr
          repeat (first | exact hq | exact wpAny_pure hq | exact wpAny_truthy_bool hq | (refine wpAny_bind (m := truthy (.bool _)) (wpAny_truthy_bool ?_)) | wp_step)) fun _ _ e => e)))
    | wp_step)
theorem ifBound_ne {Q : Option Value → Shared → Prop} (X : K.In s.heap) (I : InstAt s.heap x ox C od) (hs : findIn K (.ref C) "__ne__" = some (some (.builtin "object.__ne__")))
    (h : wpAny (model prog w) A (call (.builtin "object.__ne__") [.ref x, .ref y]) (fun v => Q (some v)) E s) : wpAny (model prog w) A (callSpecialIfBound? (.ref x) "__ne__" [.ref y]) Q E s := by
  simp only [callSpecialIfBound?, bindSpecialIfBound?]
  refine wpAny_holding (wpAny_bind (wpAny_bind (wpAny_bind (I.type.here ((looks_findIn X hs).here ?_)))))
  simp only [F.cmp_object.ne.bind]
  refine wpAny_bind (wpAny_askSetting (wpAny_ite ?_))
  have fin : wpAny (model prog w) A (call (.builtin "object.__ne__") ([.ref x] ++ [.ref y]) >>= fun v => pure (some v)) Q E s := wpAny_bind (wpAny_mono h (fun v s' h' => wpAny_pure h') fun _ _ h' => h')
  split
  · exact wpAny_bind (wpAny_pure (wpAny_pure (by exact fin)))
  · exact wpAny_tryCatch (wpAny_bind (wpAny_pure (wpAny_pure (by exact fin))))
theorem cmp_ne {Q : Value → Shared → Prop} (hu : A.units + 1 < cLine) (F : Fr h₀ L s.heap m) (X₀ : K.In h₀) (I : InstAt s.heap x ox C od) (hb : Looks (model prog w) s.heap (typeOf (.ref y)) (.ref C))
    (hs : findIn K (.ref C) "__ne__" = some (some (.builtin "object.__ne__"))) (he : findIn K (.ref C) "__eq__" = some (some (.ref f))) (hf : isFn K (.ref f) = true) (hsub : subIn K (.ref C) (.type "object") = some true)
    (h : wpAny (model prog w) A.in1 (call (.ref f) [.ref x, .ref y]) (fun v s' => ∃ b, v = .bool b ∧ Q (.bool (!b)) s') E s) : wpAny (model prog w) A (compareOp .NotEq (.ref x) (.ref y)) Q E s := by
  have X := X₀.keeps F.keep
  have one : wpAny (model prog w) A (tryCompare (.ref x) "__ne__" (.ref y)) (fun r s' => ∃ v, r = some v ∧ Q v s') E s := by
    unfold tryCompare
    refine wpAny_bind (ifBound_ne X I hs (wpAny_call (codeAny_call_builtin PySem.F.cmp_object.ne.plain PySem.F.cmpEntry_ne (check_ne X I hsub (objNe_own (A := A.in1) X I he hf hu (wpAny_mono h (fun v s' hv => ?_) fun _ _ e => e))))))
    obtain ⟨b, rfl, hq⟩ := hv
    first | exact ⟨b, rfl, wpAny_pure ⟨_, rfl, hq⟩⟩ | exact wpAny_pure ⟨_, rfl, hq⟩ | exact ⟨_, rfl, hq⟩
  unfold compareOp
  unfold richCompare
  simp only [oneThing_ref]
  refine wpAny_holding (wpAny_bind (wpAny_cRoomFor (Nat.lt_of_succ_lt hu) ?_))
  rw [cmpInfo_NotEq]
  dsimp only
  refine wpAny_bind (I.type.here (wpAny_bind (hb.here ?_)))
  rw [show (Value.ref C != Value.ref C) = false from by simp]
  simp only [Bool.false_eq_true, if_false]
  refine wpAny_bind (wpAny_pure ?_)
  simp only [Bool.false_eq_true, if_false]
  refine wpAny_bind (wpAny_mono one (fun r s' z => ?_) fun _ _ e => e)
  obtain ⟨v, rfl, hq⟩ := z
  exact wpAny_pure hq
end
def neB (K : PySem.W.Frag) (x : Str) : Bool := He.eqO (PySem.W.findIn K (.ref (He.ga K x)) "__ne__") (some (some (.builtin "object.__ne__"))) && decide (PySem.W.subIn K (.ref (He.ga K x)) (.type "object") = some true)
theorem neB_ok {K : PySem.W.Frag} {x : Str} (h : neB K x = true) : PySem.W.findIn K (.ref (He.ga K x)) "__ne__" = some (some (.builtin "object.__ne__")) ∧ PySem.W.subIn K (.ref (He.ga K x)) (.type "object") = some true :=
  let ⟨a, b⟩ := He.ba h
  ⟨He.eqO_ok a, of_decide_eq_true b⟩
/-- x != y, the two of one own class with == -/
def rOwnNe (C : Addr) (sp : Sp) : R2 := fun x y H Q => ∃ a b dx dy fs gs, x = .ref a ∧ y = .ref b ∧ H a = some (.ins C dx fs) ∧ H b = some (.ins C dy gs) ∧ sp [x, y] H (fun v H' => ∃ c, v = .bl c ∧ Q (.bl (!c)) H') E0
theorem op_ownNe {X : Cx} {k j : Nat} {x : Str} {sp : Sp} (n : neB X.K x = true) (c : Own X.prog X.w X.K X.mg X.base k (He.ga X.K x) "__eq__" sp) (hr : Room j X.A) (hk : k + 1 ≤ j := by omega) : OpR X (compareOp .NotEq) (rOwnNe (He.ga X.K x) sp) := by
  rintro pins s σ H _ _ v u Q I rx ry ⟨a, b, dx, dy, fs, gs, rfl, rfl, ha, hb, hsp⟩
  obtain ⟨f, fd, ps, F, hs, hf, B⟩ := c
  cases rx
  cases ry
  obtain ⟨_, ia, _⟩ := ins_get I.hok ha
  obtain ⟨_, ib, _⟩ := ins_get I.hok hb
  obtain ⟨_, la, _⟩ := ia.look
  obtain ⟨_, lb, _⟩ := ib.look
  have un := (hr.mono hk).un
  obtain ⟨n1, n2⟩ := neB_ok n
  refine cmp_ne (by omega) I.fr.choose_spec I.ok.mod.kin la lb.type n1 hs hf n2 (thn (ask_in1 (vs := [.ref a, .ref b]) F B (hr.mono hk) pass0 I (.cons rfl (.cons rfl .nil)) hsp) fun r s1 z => ?_)
  obtain ⟨z, H1, I1, rz, c, rfl, q⟩ := z
  cases rz
  exact ⟨c, rfl, .bl (!c), H1, I1, rfl, q⟩
end RM

set_option Elab.async false
set_option linter.all false
set_option maxRecDepth 100000
set_option maxHeartbeats 0
namespace RM
open PySem PySem.Spec PyProof.Rows L2
def top (i : Nat) : Stmt := PySem.Challenge.pw_readmoments_k02_whole_surroundings.main.body.getD i (.Pass ⟨0, 0, 0, 0⟩)
abbrev s_BadValue_init : Stmt := inClass (top 4) 0
abbrev s_NoKey_init : Stmt := inClass (top 5) 0
abbrev s_is_word : Stmt := top 11
abbrev s_is_value : Stmt := top 12
abbrev s_checked : Stmt := top 13
abbrev s_Change_init : Stmt := inClass (top 14) 0
abbrev s_Change_eq : Stmt := inClass (top 14) 2
abbrev s_Change_add : Stmt := inClass (top 14) 3
abbrev s_Change_contains : Stmt := inClass (top 14) 4
abbrev s_Change_len : Stmt := inClass (top 14) 5
abbrev s_Change_bool : Stmt := inClass (top 14) 6
abbrev s_Surroundings_init : Stmt := inClass (top 15) 0
abbrev s_Surroundings_keys_of : Stmt := inClass (top 15) 1
abbrev s_Surroundings_state : Stmt := inClass (top 15) 2
abbrev s_Surroundings_getitem : Stmt := inClass (top 15) 3
abbrev s_Surroundings_setitem : Stmt := inClass (top 15) 4
abbrev s_Surroundings_iter : Stmt := inClass (top 15) 5
abbrev s_Surroundings_add : Stmt := inClass (top 15) 6
abbrev s_Surroundings_radd : Stmt := inClass (top 15) 7
abbrev s_Surroundings_iadd : Stmt := inClass (top 15) 8
abbrev s_Surroundings_eq : Stmt := inClass (top 15) 9
abbrev s_Surroundings_contains : Stmt := inClass (top 15) 10
abbrev s_Surroundings_len : Stmt := inClass (top 15) 11
abbrev s_changed : Stmt := top 16
abbrev s_law_begin : Stmt := top 18
abbrev s_law_draw : Stmt := top 19
abbrev s_law_values : Stmt := top 20
abbrev s_law_changes : Stmt := top 21
abbrev s_law_like : Stmt := top 22
abbrev s_law_set : Stmt := top 23
abbrev s_law_read : Stmt := top 24
abbrev s_law_sum : Stmt := top 25
abbrev s_law_in_place : Stmt := top 26
abbrev s_law_stands : Stmt := top 27
abbrev s_law_over : Stmt := top 28
abbrev s_law_set_good : Stmt := top 29
abbrev s_law_sum_good : Stmt := top 30
abbrev s_law_given : Stmt := top 31
abbrev s_law : Stmt := top 32
def d_BadValue_init : He.DefD := ⟨("BadValue", some "__init__"), "__init__", "BadValue.__init__", defArgs s_BadValue_init, defBody s_BadValue_init, defScope s_BadValue_init, [], []⟩
def d_NoKey_init : He.DefD := ⟨("NoKey", some "__init__"), "__init__", "NoKey.__init__", defArgs s_NoKey_init, defBody s_NoKey_init, defScope s_NoKey_init, [], []⟩
def d_is_word : He.DefD := ⟨("is_word", none), "is_word", "is_word", defArgs s_is_word, defBody s_is_word, defScope s_is_word, [], []⟩
def d_is_value : He.DefD := ⟨("is_value", none), "is_value", "is_value", defArgs s_is_value, defBody s_is_value, defScope s_is_value, [], []⟩
def d_checked : He.DefD := ⟨("checked", none), "checked", "checked", defArgs s_checked, defBody s_checked, defScope s_checked, [], []⟩
def d_Change_init : He.DefD := ⟨("Change", some "__init__"), "__init__", "Change.__init__", defArgs s_Change_init, defBody s_Change_init, defScope s_Change_init, [], []⟩
def d_Change_eq : He.DefD := ⟨("Change", some "__eq__"), "__eq__", "Change.__eq__", defArgs s_Change_eq, defBody s_Change_eq, defScope s_Change_eq, [], []⟩
def d_Change_add : He.DefD := ⟨("Change", some "__add__"), "__add__", "Change.__add__", defArgs s_Change_add, defBody s_Change_add, defScope s_Change_add, [], []⟩
def d_Change_contains : He.DefD := ⟨("Change", some "__contains__"), "__contains__", "Change.__contains__", defArgs s_Change_contains, defBody s_Change_contains, defScope s_Change_contains, [], []⟩
def d_Change_len : He.DefD := ⟨("Change", some "__len__"), "__len__", "Change.__len__", defArgs s_Change_len, defBody s_Change_len, defScope s_Change_len, [], []⟩
def d_Change_bool : He.DefD := ⟨("Change", some "__bool__"), "__bool__", "Change.__bool__", defArgs s_Change_bool, defBody s_Change_bool, defScope s_Change_bool, [], []⟩
def d_Surroundings_init : He.DefD := ⟨("Surroundings", some "__init__"), "__init__", "Surroundings.__init__", defArgs s_Surroundings_init, defBody s_Surroundings_init, defScope s_Surroundings_init, [], []⟩
def d_Surroundings_keys_of : He.DefD := ⟨("Surroundings", some "keys_of"), "keys_of", "Surroundings.keys_of", defArgs s_Surroundings_keys_of, defBody s_Surroundings_keys_of, defScope s_Surroundings_keys_of, [], []⟩
def d_Surroundings_state : He.DefD := ⟨("Surroundings", some "state"), "state", "Surroundings.state", defArgs s_Surroundings_state, defBody s_Surroundings_state, defScope s_Surroundings_state, [], []⟩
def d_Surroundings_getitem : He.DefD := ⟨("Surroundings", some "__getitem__"), "__getitem__", "Surroundings.__getitem__", defArgs s_Surroundings_getitem, defBody s_Surroundings_getitem, defScope s_Surroundings_getitem, [], []⟩
def d_Surroundings_setitem : He.DefD := ⟨("Surroundings", some "__setitem__"), "__setitem__", "Surroundings.__setitem__", defArgs s_Surroundings_setitem, defBody s_Surroundings_setitem, defScope s_Surroundings_setitem, [], []⟩
def d_Surroundings_iter : He.DefD := ⟨("Surroundings", some "__iter__"), "__iter__", "Surroundings.__iter__", defArgs s_Surroundings_iter, defBody s_Surroundings_iter, defScope s_Surroundings_iter, [], []⟩
def d_Surroundings_add : He.DefD := ⟨("Surroundings", some "__add__"), "__add__", "Surroundings.__add__", defArgs s_Surroundings_add, defBody s_Surroundings_add, defScope s_Surroundings_add, [], []⟩
def d_Surroundings_radd : He.DefD := ⟨("Surroundings", some "__radd__"), "__radd__", "Surroundings.__radd__", defArgs s_Surroundings_radd, defBody s_Surroundings_radd, defScope s_Surroundings_radd, [], []⟩
def d_Surroundings_iadd : He.DefD := ⟨("Surroundings", some "__iadd__"), "__iadd__", "Surroundings.__iadd__", defArgs s_Surroundings_iadd, defBody s_Surroundings_iadd, defScope s_Surroundings_iadd, [], []⟩
def d_Surroundings_eq : He.DefD := ⟨("Surroundings", some "__eq__"), "__eq__", "Surroundings.__eq__", defArgs s_Surroundings_eq, defBody s_Surroundings_eq, defScope s_Surroundings_eq, [], []⟩
def d_Surroundings_contains : He.DefD := ⟨("Surroundings", some "__contains__"), "__contains__", "Surroundings.__contains__", defArgs s_Surroundings_contains, defBody s_Surroundings_contains, defScope s_Surroundings_contains, [], []⟩
def d_Surroundings_len : He.DefD := ⟨("Surroundings", some "__len__"), "__len__", "Surroundings.__len__", defArgs s_Surroundings_len, defBody s_Surroundings_len, defScope s_Surroundings_len, [], []⟩
def d_changed : He.DefD := ⟨("changed", none), "changed", "changed", defArgs s_changed, defBody s_changed, defScope s_changed, [], []⟩
def d_law_begin : He.DefD := ⟨("_law_begin", none), "_law_begin", "_law_begin", defArgs s_law_begin, defBody s_law_begin, defScope s_law_begin, [], []⟩
def d_law_draw : He.DefD := ⟨("_law_draw", none), "_law_draw", "_law_draw", defArgs s_law_draw, defBody s_law_draw, defScope s_law_draw, [], []⟩
def d_law_values : He.DefD := ⟨("_law_values", none), "_law_values", "_law_values", defArgs s_law_values, defBody s_law_values, defScope s_law_values, [], []⟩
def d_law_changes : He.DefD := ⟨("_law_changes", none), "_law_changes", "_law_changes", defArgs s_law_changes, defBody s_law_changes, defScope s_law_changes, [], []⟩
def d_law_like : He.DefD := ⟨("_law_like", none), "_law_like", "_law_like", defArgs s_law_like, defBody s_law_like, defScope s_law_like, [], []⟩
def d_law_set : He.DefD := ⟨("_law_set", none), "_law_set", "_law_set", defArgs s_law_set, defBody s_law_set, defScope s_law_set, [], []⟩
def d_law_read : He.DefD := ⟨("_law_read", none), "_law_read", "_law_read", defArgs s_law_read, defBody s_law_read, defScope s_law_read, [], []⟩
def d_law_sum : He.DefD := ⟨("_law_sum", none), "_law_sum", "_law_sum", defArgs s_law_sum, defBody s_law_sum, defScope s_law_sum, [], []⟩
def d_law_in_place : He.DefD := ⟨("_law_in_place", none), "_law_in_place", "_law_in_place", defArgs s_law_in_place, defBody s_law_in_place, defScope s_law_in_place, [], []⟩
def d_law_stands : He.DefD := ⟨("_law_stands", none), "_law_stands", "_law_stands", defArgs s_law_stands, defBody s_law_stands, defScope s_law_stands, [], []⟩
def d_law_over : He.DefD := ⟨("_law_over", none), "_law_over", "_law_over", defArgs s_law_over, defBody s_law_over, defScope s_law_over, [], []⟩
def d_law_set_good : He.DefD := ⟨("_law_set_good", none), "_law_set_good", "_law_set_good", defArgs s_law_set_good, defBody s_law_set_good, defScope s_law_set_good, [], []⟩
def d_law_sum_good : He.DefD := ⟨("_law_sum_good", none), "_law_sum_good", "_law_sum_good", defArgs s_law_sum_good, defBody s_law_sum_good, defScope s_law_sum_good, [], []⟩
def d_law_given : He.DefD := ⟨("_law_given", none), "_law_given", "_law_given", defArgs s_law_given, defBody s_law_given, defScope s_law_given, [], []⟩
def d_law : He.DefD := ⟨("law", none), "law", "law", defArgs s_law, defBody s_law, defScope s_law, [], []⟩
def fnL : List He.DefD := [d_BadValue_init, d_NoKey_init, d_is_word, d_is_value, d_checked, d_Change_init, d_Change_eq, d_Change_add, d_Change_contains, d_Change_len, d_Change_bool, d_Surroundings_init, d_Surroundings_keys_of, d_Surroundings_state, d_Surroundings_getitem, d_Surroundings_setitem, d_Surroundings_iter, d_Surroundings_add, d_Surroundings_radd, d_Surroundings_iadd, d_Surroundings_eq, d_Surroundings_contains, d_Surroundings_len, d_changed, d_law_begin, d_law_draw, d_law_values, d_law_changes, d_law_like, d_law_set, d_law_read, d_law_sum, d_law_in_place, d_law_stands, d_law_over, d_law_set_good, d_law_sum_good, d_law_given, d_law]
def fa0 : List He.Fa := [.glo "is_word", .glo "is_value", .glo "checked", .glo "changed", .glo "_law_begin", .glo "_law_draw", .glo "_law_values", .glo "_law_changes", .glo "_law_like", .glo "_law_set", .glo "_law_read", .glo "_law_sum", .glo "_law_in_place", .glo "_law_stands", .glo "_law_over", .glo "_law_set_good", .glo "_law_sum_good", .glo "_law_given", .glo "law", .glo "MomentError", .glo "BadValues", .glo "BadValue", .glo "NoKey", .glo "Change", .glo "Surroundings", .free "NotImplemented", .free "TypeError", .free "all", .free "bool", .free "dict"]
def fa1 : List He.Fa := [.free "int", .free "isinstance", .free "len", .free "list", .free "range", .free "sorted", .free "str", .free "tuple", .str "LETTERS" "abcdefghijklmnopqrstuvwxyz", .int "LONGEST" 6, .int "GREATEST" 99, .int "MOST" 4, .cls "Change", .mkr "Change", .meth "Change" "__init__", .meth "Change" "settings", .meth "Change" "__eq__", .meth "Change" "__add__", .meth "Change" "__contains__", .meth "Change" "__len__", .meth "Change" "__bool__", .noat "Change" "given", .cls "Surroundings", .mkr "Surroundings", .meth "Surroundings" "__init__", .meth "Surroundings" "keys_of", .meth "Surroundings" "state", .meth "Surroundings" "__getitem__", .meth "Surroundings" "__setitem__", .meth "Surroundings" "__iter__"]
def fa2 : List He.Fa := [.meth "Surroundings" "__add__", .meth "Surroundings" "__radd__", .meth "Surroundings" "__iadd__", .meth "Surroundings" "__eq__", .meth "Surroundings" "__contains__", .meth "Surroundings" "__len__", .noat "Surroundings" "now", .exc "MomentError", .exc "BadValues", .meth "BadValue" "__init__", .noat "BadValue" "value", .meth "NoKey" "__init__", .noat "NoKey" "key", .exm "MomentError" "NoKey" false, .exm "MomentError" "BadValue" false, .exm "BadValues" "NoKey" false, .exm "BadValues" "BadValue" false, .exm "BadValue" "NoKey" false, .exm "BadValue" "BadValue" true, .exm "NoKey" "NoKey" true, .exm "NoKey" "BadValue" false]
def faL : List He.Fa := fa0 ++ fa1 ++ fa2
def tsL : List He.Tab := []
def exL : List (PySem.W.Frag → Bool) := [fun K => insB K "Change", fun K => kitC K "Change" "Change" true, fun K => kitC K "Change" "Surroundings" false, fun K => insB K "Surroundings", fun K => kitC K "Surroundings" "Change" false, fun K => kitC K "Surroundings" "Surroundings" true, fun K => spcB K "Change" "__eq__", fun K => spcB K "Change" "__add__", fun K => spcB K "Change" "__contains__", fun K => spcB K "Change" "__len__", fun K => spcB K "Change" "__bool__", fun K => spcB K "Surroundings" "__getitem__", fun K => spcB K "Surroundings" "__setitem__", fun K => spcB K "Surroundings" "__iter__", fun K => spcB K "Surroundings" "__add__", fun K => spcB K "Surroundings" "__radd__", fun K => spcB K "Surroundings" "__iadd__", fun K => spcB K "Surroundings" "__eq__", fun K => spcB K "Surroundings" "__contains__", fun K => spcB K "Surroundings" "__len__", fun K => oexB K (He.ga K "BadValue"), fun K => xfB K (He.ga K "BadValue"), fun K => oexB K (He.ga K "NoKey"), fun K => xfB K (He.ga K "NoKey"), fun K => neB K "Change", fun K => neB K "Surroundings", fun K => twoB K "Surroundings" "Change", fun K => twoB K "Change" "Surroundings", fun K => PySem.W.noSeq K (He.ga K "Surroundings")]
def exB (K : PySem.W.Frag) : Bool := exL.all fun f => f K
def nm0 : List PySem.Str := ["_wall", "MomentError", "BadValues", "BadValue", "NoKey", "LETTERS", "LONGEST", "GREATEST", "MOST", "is_word", "is_value", "checked", "Change", "Surroundings", "changed", "_law_begin", "_law_draw", "_law_values", "_law_changes", "_law_like", "_law_set", "_law_read", "_law_sum", "_law_in_place", "_law_stands", "_law_over", "_law_set_good", "_law_sum_good", "_law_given"]
def names : List PySem.Str := nm0
abbrev R : PySem.W.OpenRow := PySem.W.OpenLaw.row PySem.Challenge.rw_readmoments_k02_whole_surroundings
abbrev hk : PySem.W.Hook := He.hookX 5 faL fnL tsL [] exB
def ob (s : PySem.W.SharedT) : He.AlX := He.obsX 5 faL fnL tsL [] exB (HandSHeadRun.getT s)
theorem ob_eq (s : PySem.W.SharedT) : ob s = hk.obs s.abs := He.obsX_eq (HandSHeadRun.getT_eq s)
theorem run0 (w : World) : HandSHeadRun.RunEq R (PySem.W.view R.prog [32]) hk ob 9000 names (w.withFollow "special-get-raises" false) := by
  intro os
  kernel_rfl
theorem run1 (w : World) : HandSHeadRun.RunEq R (PySem.W.view R.prog [32]) hk ob 9000 names (w.withFollow "special-get-raises" true) := by
  intro os
  kernel_rfl
theorem run (w : World) : HandSHeadRun.RunEq R (PySem.W.view R.prog [32]) hk ob 9000 names w := PySem.W.byRow2 "special-get-raises" (P := fun w => HandSHeadRun.RunEq R (PySem.W.view R.prog [32]) hk ob 9000 names w) run0 run1 w
end RM

set_option Elab.async false
set_option linter.all false
set_option maxRecDepth 100000
set_option maxHeartbeats 2000000
namespace RM
open PySem PySem.Spec PyProof.Rows L2
/-- what the top has left -/
structure Top (w : World) (K : PySem.W.Frag) (mg : Str → Option Value) : Prop where
  h : ∃ hp : Heap, K.In hp ∧ hp.Ns mainGlobals mg ∧ He.SaysX faL fnL tsL [] exB w hp K
section
variable {w : World} {K : PySem.W.Frag} {mg : Str → Option Value}
theorem Top.fa (T : Top w K mg) (i : Nat) {f : He.Fa} (h : faL[i]? = some f) : f.ok K = true := let ⟨_, _, _, c⟩ := T.h; c.t.d.fact i h
theorem Top.fd (T : Top w K mg) (i : Nat) {d : He.DefD} (h : fnL[i]? = some d) : ∃ fd, FunD K d.name d.qual d.params d.body d.scope (d.dvs K) (d.kws K) (He.fAd K d.at_) fd := let ⟨_, _, _, c⟩ := T.h; c.t.d.def_ i h
theorem g_is_word (T : Top w K mg) : mg "is_word" = some (.ref (He.ga K "is_word")) := let ⟨_, X, G, _⟩ := T.h; He.glo_ok X G (T.fa 0 rfl)
theorem g_is_value (T : Top w K mg) : mg "is_value" = some (.ref (He.ga K "is_value")) := let ⟨_, X, G, _⟩ := T.h; He.glo_ok X G (T.fa 1 rfl)
theorem g_checked (T : Top w K mg) : mg "checked" = some (.ref (He.ga K "checked")) := let ⟨_, X, G, _⟩ := T.h; He.glo_ok X G (T.fa 2 rfl)
theorem g_changed (T : Top w K mg) : mg "changed" = some (.ref (He.ga K "changed")) := let ⟨_, X, G, _⟩ := T.h; He.glo_ok X G (T.fa 3 rfl)
theorem g_law_begin (T : Top w K mg) : mg "_law_begin" = some (.ref (He.ga K "_law_begin")) := let ⟨_, X, G, _⟩ := T.h; He.glo_ok X G (T.fa 4 rfl)
theorem g_law_draw (T : Top w K mg) : mg "_law_draw" = some (.ref (He.ga K "_law_draw")) := let ⟨_, X, G, _⟩ := T.h; He.glo_ok X G (T.fa 5 rfl)
theorem g_law_values (T : Top w K mg) : mg "_law_values" = some (.ref (He.ga K "_law_values")) := let ⟨_, X, G, _⟩ := T.h; He.glo_ok X G (T.fa 6 rfl)
theorem g_law_changes (T : Top w K mg) : mg "_law_changes" = some (.ref (He.ga K "_law_changes")) := let ⟨_, X, G, _⟩ := T.h; He.glo_ok X G (T.fa 7 rfl)
theorem g_law_like (T : Top w K mg) : mg "_law_like" = some (.ref (He.ga K "_law_like")) := let ⟨_, X, G, _⟩ := T.h; He.glo_ok X G (T.fa 8 rfl)
theorem g_law_set (T : Top w K mg) : mg "_law_set" = some (.ref (He.ga K "_law_set")) := let ⟨_, X, G, _⟩ := T.h; He.glo_ok X G (T.fa 9 rfl)
theorem g_law_read (T : Top w K mg) : mg "_law_read" = some (.ref (He.ga K "_law_read")) := let ⟨_, X, G, _⟩ := T.h; He.glo_ok X G (T.fa 10 rfl)
theorem g_law_sum (T : Top w K mg) : mg "_law_sum" = some (.ref (He.ga K "_law_sum")) := let ⟨_, X, G, _⟩ := T.h; He.glo_ok X G (T.fa 11 rfl)
theorem g_law_in_place (T : Top w K mg) : mg "_law_in_place" = some (.ref (He.ga K "_law_in_place")) := let ⟨_, X, G, _⟩ := T.h; He.glo_ok X G (T.fa 12 rfl)
theorem g_law_stands (T : Top w K mg) : mg "_law_stands" = some (.ref (He.ga K "_law_stands")) := let ⟨_, X, G, _⟩ := T.h; He.glo_ok X G (T.fa 13 rfl)
theorem g_law_over (T : Top w K mg) : mg "_law_over" = some (.ref (He.ga K "_law_over")) := let ⟨_, X, G, _⟩ := T.h; He.glo_ok X G (T.fa 14 rfl)
theorem g_law_set_good (T : Top w K mg) : mg "_law_set_good" = some (.ref (He.ga K "_law_set_good")) := let ⟨_, X, G, _⟩ := T.h; He.glo_ok X G (T.fa 15 rfl)
theorem g_law_sum_good (T : Top w K mg) : mg "_law_sum_good" = some (.ref (He.ga K "_law_sum_good")) := let ⟨_, X, G, _⟩ := T.h; He.glo_ok X G (T.fa 16 rfl)
theorem g_law_given (T : Top w K mg) : mg "_law_given" = some (.ref (He.ga K "_law_given")) := let ⟨_, X, G, _⟩ := T.h; He.glo_ok X G (T.fa 17 rfl)
theorem g_law (T : Top w K mg) : mg "law" = some (.ref (He.ga K "law")) := let ⟨_, X, G, _⟩ := T.h; He.glo_ok X G (T.fa 18 rfl)
theorem g_MomentError (T : Top w K mg) : mg "MomentError" = some (.ref (He.ga K "MomentError")) := let ⟨_, X, G, _⟩ := T.h; He.glo_ok X G (T.fa 19 rfl)
theorem g_BadValues (T : Top w K mg) : mg "BadValues" = some (.ref (He.ga K "BadValues")) := let ⟨_, X, G, _⟩ := T.h; He.glo_ok X G (T.fa 20 rfl)
theorem g_BadValue (T : Top w K mg) : mg "BadValue" = some (.ref (He.ga K "BadValue")) := let ⟨_, X, G, _⟩ := T.h; He.glo_ok X G (T.fa 21 rfl)
theorem g_NoKey (T : Top w K mg) : mg "NoKey" = some (.ref (He.ga K "NoKey")) := let ⟨_, X, G, _⟩ := T.h; He.glo_ok X G (T.fa 22 rfl)
theorem g_Change (T : Top w K mg) : mg "Change" = some (.ref (He.ga K "Change")) := let ⟨_, X, G, _⟩ := T.h; He.glo_ok X G (T.fa 23 rfl)
theorem g_Surroundings (T : Top w K mg) : mg "Surroundings" = some (.ref (He.ga K "Surroundings")) := let ⟨_, X, G, _⟩ := T.h; He.glo_ok X G (T.fa 24 rfl)
theorem z_NotImplemented (T : Top w K mg) : mg "NotImplemented" = none := let ⟨_, X, G, _⟩ := T.h; He.free_ok X G (T.fa 25 rfl)
theorem z_TypeError (T : Top w K mg) : mg "TypeError" = none := let ⟨_, X, G, _⟩ := T.h; He.free_ok X G (T.fa 26 rfl)
theorem z_all (T : Top w K mg) : mg "all" = none := let ⟨_, X, G, _⟩ := T.h; He.free_ok X G (T.fa 27 rfl)
theorem z_bool (T : Top w K mg) : mg "bool" = none := let ⟨_, X, G, _⟩ := T.h; He.free_ok X G (T.fa 28 rfl)
theorem z_dict (T : Top w K mg) : mg "dict" = none := let ⟨_, X, G, _⟩ := T.h; He.free_ok X G (T.fa 29 rfl)
theorem z_int (T : Top w K mg) : mg "int" = none := let ⟨_, X, G, _⟩ := T.h; He.free_ok X G (T.fa 30 rfl)
theorem z_isinstance (T : Top w K mg) : mg "isinstance" = none := let ⟨_, X, G, _⟩ := T.h; He.free_ok X G (T.fa 31 rfl)
theorem z_len (T : Top w K mg) : mg "len" = none := let ⟨_, X, G, _⟩ := T.h; He.free_ok X G (T.fa 32 rfl)
theorem z_list (T : Top w K mg) : mg "list" = none := let ⟨_, X, G, _⟩ := T.h; He.free_ok X G (T.fa 33 rfl)
theorem z_range (T : Top w K mg) : mg "range" = none := let ⟨_, X, G, _⟩ := T.h; He.free_ok X G (T.fa 34 rfl)
theorem z_sorted (T : Top w K mg) : mg "sorted" = none := let ⟨_, X, G, _⟩ := T.h; He.free_ok X G (T.fa 35 rfl)
theorem z_str (T : Top w K mg) : mg "str" = none := let ⟨_, X, G, _⟩ := T.h; He.free_ok X G (T.fa 36 rfl)
theorem z_tuple (T : Top w K mg) : mg "tuple" = none := let ⟨_, X, G, _⟩ := T.h; He.free_ok X G (T.fa 37 rfl)
theorem i_LETTERS (T : Top w K mg) : ∃ t, mg "LETTERS" = some (.str "abcdefghijklmnopqrstuvwxyz" t) := let ⟨_, X, G, _⟩ := T.h; He.str_ok X G (T.fa 38 rfl)
theorem i_LONGEST (T : Top w K mg) : ∃ t, mg "LONGEST" = some (.int 6 t) := let ⟨_, X, G, _⟩ := T.h; He.int_ok X G (T.fa 39 rfl)
theorem i_GREATEST (T : Top w K mg) : ∃ t, mg "GREATEST" = some (.int 99 t) := let ⟨_, X, G, _⟩ := T.h; He.int_ok X G (T.fa 40 rfl)
theorem i_MOST (T : Top w K mg) : ∃ t, mg "MOST" = some (.int 4 t) := let ⟨_, X, G, _⟩ := T.h; He.int_ok X G (T.fa 41 rfl)
theorem k_Change (T : Top w K mg) : Cls K (He.ga K "Change") := He.cls_ok (T.fa 42 rfl)
theorem mk_Change (T : Top w K mg) : Mk K (He.ga K "Change") (He.ma K (He.ga K "Change") "__init__") := He.mkr_ok (T.fa 43 rfl)
theorem me_Change_init (T : Top w K mg) : Meth K (He.ga K "Change") "__init__" (He.ma K (He.ga K "Change") "__init__") := He.meth_ok (T.fa 44 rfl)
theorem me_Change_settings (T : Top w K mg) : Meth K (He.ga K "Change") "settings" (He.ma K (He.ga K "Change") "settings") := He.meth_ok (T.fa 45 rfl)
theorem me_Change_eq (T : Top w K mg) : Meth K (He.ga K "Change") "__eq__" (He.ma K (He.ga K "Change") "__eq__") := He.meth_ok (T.fa 46 rfl)
theorem me_Change_add (T : Top w K mg) : Meth K (He.ga K "Change") "__add__" (He.ma K (He.ga K "Change") "__add__") := He.meth_ok (T.fa 47 rfl)
theorem me_Change_contains (T : Top w K mg) : Meth K (He.ga K "Change") "__contains__" (He.ma K (He.ga K "Change") "__contains__") := He.meth_ok (T.fa 48 rfl)
theorem me_Change_len (T : Top w K mg) : Meth K (He.ga K "Change") "__len__" (He.ma K (He.ga K "Change") "__len__") := He.meth_ok (T.fa 49 rfl)
theorem me_Change_bool (T : Top w K mg) : Meth K (He.ga K "Change") "__bool__" (He.ma K (He.ga K "Change") "__bool__") := He.meth_ok (T.fa 50 rfl)
theorem na_Change_given (T : Top w K mg) : NoAttr K (He.ga K "Change") "given" := He.noat_ok (T.fa 51 rfl)
theorem k_Surroundings (T : Top w K mg) : Cls K (He.ga K "Surroundings") := He.cls_ok (T.fa 52 rfl)
theorem mk_Surroundings (T : Top w K mg) : Mk K (He.ga K "Surroundings") (He.ma K (He.ga K "Surroundings") "__init__") := He.mkr_ok (T.fa 53 rfl)
theorem me_Surroundings_init (T : Top w K mg) : Meth K (He.ga K "Surroundings") "__init__" (He.ma K (He.ga K "Surroundings") "__init__") := He.meth_ok (T.fa 54 rfl)
theorem me_Surroundings_keys_of (T : Top w K mg) : Meth K (He.ga K "Surroundings") "keys_of" (He.ma K (He.ga K "Surroundings") "keys_of") := He.meth_ok (T.fa 55 rfl)
theorem me_Surroundings_state (T : Top w K mg) : Meth K (He.ga K "Surroundings") "state" (He.ma K (He.ga K "Surroundings") "state") := He.meth_ok (T.fa 56 rfl)
theorem me_Surroundings_getitem (T : Top w K mg) : Meth K (He.ga K "Surroundings") "__getitem__" (He.ma K (He.ga K "Surroundings") "__getitem__") := He.meth_ok (T.fa 57 rfl)
theorem me_Surroundings_setitem (T : Top w K mg) : Meth K (He.ga K "Surroundings") "__setitem__" (He.ma K (He.ga K "Surroundings") "__setitem__") := He.meth_ok (T.fa 58 rfl)
theorem me_Surroundings_iter (T : Top w K mg) : Meth K (He.ga K "Surroundings") "__iter__" (He.ma K (He.ga K "Surroundings") "__iter__") := He.meth_ok (T.fa 59 rfl)
theorem me_Surroundings_add (T : Top w K mg) : Meth K (He.ga K "Surroundings") "__add__" (He.ma K (He.ga K "Surroundings") "__add__") := He.meth_ok (T.fa 60 rfl)
theorem me_Surroundings_radd (T : Top w K mg) : Meth K (He.ga K "Surroundings") "__radd__" (He.ma K (He.ga K "Surroundings") "__radd__") := He.meth_ok (T.fa 61 rfl)
theorem me_Surroundings_iadd (T : Top w K mg) : Meth K (He.ga K "Surroundings") "__iadd__" (He.ma K (He.ga K "Surroundings") "__iadd__") := He.meth_ok (T.fa 62 rfl)
theorem me_Surroundings_eq (T : Top w K mg) : Meth K (He.ga K "Surroundings") "__eq__" (He.ma K (He.ga K "Surroundings") "__eq__") := He.meth_ok (T.fa 63 rfl)
theorem me_Surroundings_contains (T : Top w K mg) : Meth K (He.ga K "Surroundings") "__contains__" (He.ma K (He.ga K "Surroundings") "__contains__") := He.meth_ok (T.fa 64 rfl)
theorem me_Surroundings_len (T : Top w K mg) : Meth K (He.ga K "Surroundings") "__len__" (He.ma K (He.ga K "Surroundings") "__len__") := He.meth_ok (T.fa 65 rfl)
theorem na_Surroundings_now (T : Top w K mg) : NoAttr K (He.ga K "Surroundings") "now" := He.noat_ok (T.fa 66 rfl)
theorem xc_MomentError (T : Top w K mg) : PySem.W.excIn K (He.ga K "MomentError") He.veBase "ValueError.__new__" = true ∧ PySem.W.keepIn K (.ref (He.ga K "MomentError")) = true ∧ PySem.W.subIn K (.ref (He.ga K "MomentError")) (.type "BaseException") = some true ∧ PySem.W.typeIn K (.ref (He.ga K "MomentError")) = some (.type "type") := He.exc_ok (T.fa 67 rfl)
theorem xc_BadValues (T : Top w K mg) : PySem.W.excIn K (He.ga K "BadValues") He.veBase "ValueError.__new__" = true ∧ PySem.W.keepIn K (.ref (He.ga K "BadValues")) = true ∧ PySem.W.subIn K (.ref (He.ga K "BadValues")) (.type "BaseException") = some true ∧ PySem.W.typeIn K (.ref (He.ga K "BadValues")) = some (.type "type") := He.exc_ok (T.fa 68 rfl)
theorem me_BadValue_init (T : Top w K mg) : Meth K (He.ga K "BadValue") "__init__" (He.ma K (He.ga K "BadValue") "__init__") := He.meth_ok (T.fa 69 rfl)
theorem na_BadValue_value (T : Top w K mg) : NoAttr K (He.ga K "BadValue") "value" := He.noat_ok (T.fa 70 rfl)
theorem me_NoKey_init (T : Top w K mg) : Meth K (He.ga K "NoKey") "__init__" (He.ma K (He.ga K "NoKey") "__init__") := He.meth_ok (T.fa 71 rfl)
theorem na_NoKey_key (T : Top w K mg) : NoAttr K (He.ga K "NoKey") "key" := He.noat_ok (T.fa 72 rfl)
theorem xm_MomentError_NoKey (T : Top w K mg) : PySem.W.exmOne K (.ref (He.ga K "MomentError")) (.ref (He.ga K "NoKey")) = some false := He.exm_ok (T.fa 73 rfl)
theorem xm_MomentError_BadValue (T : Top w K mg) : PySem.W.exmOne K (.ref (He.ga K "MomentError")) (.ref (He.ga K "BadValue")) = some false := He.exm_ok (T.fa 74 rfl)
theorem xm_BadValues_NoKey (T : Top w K mg) : PySem.W.exmOne K (.ref (He.ga K "BadValues")) (.ref (He.ga K "NoKey")) = some false := He.exm_ok (T.fa 75 rfl)
theorem xm_BadValues_BadValue (T : Top w K mg) : PySem.W.exmOne K (.ref (He.ga K "BadValues")) (.ref (He.ga K "BadValue")) = some false := He.exm_ok (T.fa 76 rfl)
theorem xm_BadValue_NoKey (T : Top w K mg) : PySem.W.exmOne K (.ref (He.ga K "BadValue")) (.ref (He.ga K "NoKey")) = some false := He.exm_ok (T.fa 77 rfl)
theorem xm_BadValue_BadValue (T : Top w K mg) : PySem.W.exmOne K (.ref (He.ga K "BadValue")) (.ref (He.ga K "BadValue")) = some true := He.exm_ok (T.fa 78 rfl)
theorem xm_NoKey_NoKey (T : Top w K mg) : PySem.W.exmOne K (.ref (He.ga K "NoKey")) (.ref (He.ga K "NoKey")) = some true := He.exm_ok (T.fa 79 rfl)
theorem xm_NoKey_BadValue (T : Top w K mg) : PySem.W.exmOne K (.ref (He.ga K "NoKey")) (.ref (He.ga K "BadValue")) = some false := He.exm_ok (T.fa 80 rfl)
theorem f_BadValue_init (T : Top w K mg) : ∃ fd, FunD K "__init__" "BadValue.__init__" (defArgs s_BadValue_init) (defBody s_BadValue_init) (defScope s_BadValue_init) [] [] (He.ma K (He.ga K "BadValue") "__init__") fd := T.fd 0 (d := d_BadValue_init) rfl
theorem f_NoKey_init (T : Top w K mg) : ∃ fd, FunD K "__init__" "NoKey.__init__" (defArgs s_NoKey_init) (defBody s_NoKey_init) (defScope s_NoKey_init) [] [] (He.ma K (He.ga K "NoKey") "__init__") fd := T.fd 1 (d := d_NoKey_init) rfl
theorem f_is_word (T : Top w K mg) : ∃ fd, FunD K "is_word" "is_word" (defArgs s_is_word) (defBody s_is_word) (defScope s_is_word) [] [] (He.ga K "is_word") fd := T.fd 2 (d := d_is_word) rfl
theorem f_is_value (T : Top w K mg) : ∃ fd, FunD K "is_value" "is_value" (defArgs s_is_value) (defBody s_is_value) (defScope s_is_value) [] [] (He.ga K "is_value") fd := T.fd 3 (d := d_is_value) rfl
theorem f_checked (T : Top w K mg) : ∃ fd, FunD K "checked" "checked" (defArgs s_checked) (defBody s_checked) (defScope s_checked) [] [] (He.ga K "checked") fd := T.fd 4 (d := d_checked) rfl
theorem f_Change_init (T : Top w K mg) : ∃ fd, FunD K "__init__" "Change.__init__" (defArgs s_Change_init) (defBody s_Change_init) (defScope s_Change_init) [] [] (He.ma K (He.ga K "Change") "__init__") fd := T.fd 5 (d := d_Change_init) rfl
theorem f_Change_eq (T : Top w K mg) : ∃ fd, FunD K "__eq__" "Change.__eq__" (defArgs s_Change_eq) (defBody s_Change_eq) (defScope s_Change_eq) [] [] (He.ma K (He.ga K "Change") "__eq__") fd := T.fd 6 (d := d_Change_eq) rfl
theorem f_Change_add (T : Top w K mg) : ∃ fd, FunD K "__add__" "Change.__add__" (defArgs s_Change_add) (defBody s_Change_add) (defScope s_Change_add) [] [] (He.ma K (He.ga K "Change") "__add__") fd := T.fd 7 (d := d_Change_add) rfl
theorem f_Change_contains (T : Top w K mg) : ∃ fd, FunD K "__contains__" "Change.__contains__" (defArgs s_Change_contains) (defBody s_Change_contains) (defScope s_Change_contains) [] [] (He.ma K (He.ga K "Change") "__contains__") fd := T.fd 8 (d := d_Change_contains) rfl
theorem f_Change_len (T : Top w K mg) : ∃ fd, FunD K "__len__" "Change.__len__" (defArgs s_Change_len) (defBody s_Change_len) (defScope s_Change_len) [] [] (He.ma K (He.ga K "Change") "__len__") fd := T.fd 9 (d := d_Change_len) rfl
theorem f_Change_bool (T : Top w K mg) : ∃ fd, FunD K "__bool__" "Change.__bool__" (defArgs s_Change_bool) (defBody s_Change_bool) (defScope s_Change_bool) [] [] (He.ma K (He.ga K "Change") "__bool__") fd := T.fd 10 (d := d_Change_bool) rfl
theorem f_Surroundings_init (T : Top w K mg) : ∃ fd, FunD K "__init__" "Surroundings.__init__" (defArgs s_Surroundings_init) (defBody s_Surroundings_init) (defScope s_Surroundings_init) [] [] (He.ma K (He.ga K "Surroundings") "__init__") fd := T.fd 11 (d := d_Surroundings_init) rfl
theorem f_Surroundings_keys_of (T : Top w K mg) : ∃ fd, FunD K "keys_of" "Surroundings.keys_of" (defArgs s_Surroundings_keys_of) (defBody s_Surroundings_keys_of) (defScope s_Surroundings_keys_of) [] [] (He.ma K (He.ga K "Surroundings") "keys_of") fd := T.fd 12 (d := d_Surroundings_keys_of) rfl
theorem f_Surroundings_state (T : Top w K mg) : ∃ fd, FunD K "state" "Surroundings.state" (defArgs s_Surroundings_state) (defBody s_Surroundings_state) (defScope s_Surroundings_state) [] [] (He.ma K (He.ga K "Surroundings") "state") fd := T.fd 13 (d := d_Surroundings_state) rfl
theorem f_Surroundings_getitem (T : Top w K mg) : ∃ fd, FunD K "__getitem__" "Surroundings.__getitem__" (defArgs s_Surroundings_getitem) (defBody s_Surroundings_getitem) (defScope s_Surroundings_getitem) [] [] (He.ma K (He.ga K "Surroundings") "__getitem__") fd := T.fd 14 (d := d_Surroundings_getitem) rfl
theorem f_Surroundings_setitem (T : Top w K mg) : ∃ fd, FunD K "__setitem__" "Surroundings.__setitem__" (defArgs s_Surroundings_setitem) (defBody s_Surroundings_setitem) (defScope s_Surroundings_setitem) [] [] (He.ma K (He.ga K "Surroundings") "__setitem__") fd := T.fd 15 (d := d_Surroundings_setitem) rfl
theorem f_Surroundings_iter (T : Top w K mg) : ∃ fd, FunD K "__iter__" "Surroundings.__iter__" (defArgs s_Surroundings_iter) (defBody s_Surroundings_iter) (defScope s_Surroundings_iter) [] [] (He.ma K (He.ga K "Surroundings") "__iter__") fd := T.fd 16 (d := d_Surroundings_iter) rfl
theorem f_Surroundings_add (T : Top w K mg) : ∃ fd, FunD K "__add__" "Surroundings.__add__" (defArgs s_Surroundings_add) (defBody s_Surroundings_add) (defScope s_Surroundings_add) [] [] (He.ma K (He.ga K "Surroundings") "__add__") fd := T.fd 17 (d := d_Surroundings_add) rfl
theorem f_Surroundings_radd (T : Top w K mg) : ∃ fd, FunD K "__radd__" "Surroundings.__radd__" (defArgs s_Surroundings_radd) (defBody s_Surroundings_radd) (defScope s_Surroundings_radd) [] [] (He.ma K (He.ga K "Surroundings") "__radd__") fd := T.fd 18 (d := d_Surroundings_radd) rfl
theorem f_Surroundings_iadd (T : Top w K mg) : ∃ fd, FunD K "__iadd__" "Surroundings.__iadd__" (defArgs s_Surroundings_iadd) (defBody s_Surroundings_iadd) (defScope s_Surroundings_iadd) [] [] (He.ma K (He.ga K "Surroundings") "__iadd__") fd := T.fd 19 (d := d_Surroundings_iadd) rfl
theorem f_Surroundings_eq (T : Top w K mg) : ∃ fd, FunD K "__eq__" "Surroundings.__eq__" (defArgs s_Surroundings_eq) (defBody s_Surroundings_eq) (defScope s_Surroundings_eq) [] [] (He.ma K (He.ga K "Surroundings") "__eq__") fd := T.fd 20 (d := d_Surroundings_eq) rfl
theorem f_Surroundings_contains (T : Top w K mg) : ∃ fd, FunD K "__contains__" "Surroundings.__contains__" (defArgs s_Surroundings_contains) (defBody s_Surroundings_contains) (defScope s_Surroundings_contains) [] [] (He.ma K (He.ga K "Surroundings") "__contains__") fd := T.fd 21 (d := d_Surroundings_contains) rfl
theorem f_Surroundings_len (T : Top w K mg) : ∃ fd, FunD K "__len__" "Surroundings.__len__" (defArgs s_Surroundings_len) (defBody s_Surroundings_len) (defScope s_Surroundings_len) [] [] (He.ma K (He.ga K "Surroundings") "__len__") fd := T.fd 22 (d := d_Surroundings_len) rfl
theorem f_changed (T : Top w K mg) : ∃ fd, FunD K "changed" "changed" (defArgs s_changed) (defBody s_changed) (defScope s_changed) [] [] (He.ga K "changed") fd := T.fd 23 (d := d_changed) rfl
theorem f_law_begin (T : Top w K mg) : ∃ fd, FunD K "_law_begin" "_law_begin" (defArgs s_law_begin) (defBody s_law_begin) (defScope s_law_begin) [] [] (He.ga K "_law_begin") fd := T.fd 24 (d := d_law_begin) rfl
theorem f_law_draw (T : Top w K mg) : ∃ fd, FunD K "_law_draw" "_law_draw" (defArgs s_law_draw) (defBody s_law_draw) (defScope s_law_draw) [] [] (He.ga K "_law_draw") fd := T.fd 25 (d := d_law_draw) rfl
theorem f_law_values (T : Top w K mg) : ∃ fd, FunD K "_law_values" "_law_values" (defArgs s_law_values) (defBody s_law_values) (defScope s_law_values) [] [] (He.ga K "_law_values") fd := T.fd 26 (d := d_law_values) rfl
theorem f_law_changes (T : Top w K mg) : ∃ fd, FunD K "_law_changes" "_law_changes" (defArgs s_law_changes) (defBody s_law_changes) (defScope s_law_changes) [] [] (He.ga K "_law_changes") fd := T.fd 27 (d := d_law_changes) rfl
theorem f_law_like (T : Top w K mg) : ∃ fd, FunD K "_law_like" "_law_like" (defArgs s_law_like) (defBody s_law_like) (defScope s_law_like) [] [] (He.ga K "_law_like") fd := T.fd 28 (d := d_law_like) rfl
theorem f_law_set (T : Top w K mg) : ∃ fd, FunD K "_law_set" "_law_set" (defArgs s_law_set) (defBody s_law_set) (defScope s_law_set) [] [] (He.ga K "_law_set") fd := T.fd 29 (d := d_law_set) rfl
theorem f_law_read (T : Top w K mg) : ∃ fd, FunD K "_law_read" "_law_read" (defArgs s_law_read) (defBody s_law_read) (defScope s_law_read) [] [] (He.ga K "_law_read") fd := T.fd 30 (d := d_law_read) rfl
theorem f_law_sum (T : Top w K mg) : ∃ fd, FunD K "_law_sum" "_law_sum" (defArgs s_law_sum) (defBody s_law_sum) (defScope s_law_sum) [] [] (He.ga K "_law_sum") fd := T.fd 31 (d := d_law_sum) rfl
theorem f_law_in_place (T : Top w K mg) : ∃ fd, FunD K "_law_in_place" "_law_in_place" (defArgs s_law_in_place) (defBody s_law_in_place) (defScope s_law_in_place) [] [] (He.ga K "_law_in_place") fd := T.fd 32 (d := d_law_in_place) rfl
theorem f_law_stands (T : Top w K mg) : ∃ fd, FunD K "_law_stands" "_law_stands" (defArgs s_law_stands) (defBody s_law_stands) (defScope s_law_stands) [] [] (He.ga K "_law_stands") fd := T.fd 33 (d := d_law_stands) rfl
theorem f_law_over (T : Top w K mg) : ∃ fd, FunD K "_law_over" "_law_over" (defArgs s_law_over) (defBody s_law_over) (defScope s_law_over) [] [] (He.ga K "_law_over") fd := T.fd 34 (d := d_law_over) rfl
theorem f_law_set_good (T : Top w K mg) : ∃ fd, FunD K "_law_set_good" "_law_set_good" (defArgs s_law_set_good) (defBody s_law_set_good) (defScope s_law_set_good) [] [] (He.ga K "_law_set_good") fd := T.fd 35 (d := d_law_set_good) rfl
theorem f_law_sum_good (T : Top w K mg) : ∃ fd, FunD K "_law_sum_good" "_law_sum_good" (defArgs s_law_sum_good) (defBody s_law_sum_good) (defScope s_law_sum_good) [] [] (He.ga K "_law_sum_good") fd := T.fd 36 (d := d_law_sum_good) rfl
theorem f_law_given (T : Top w K mg) : ∃ fd, FunD K "_law_given" "_law_given" (defArgs s_law_given) (defBody s_law_given) (defScope s_law_given) [] [] (He.ga K "_law_given") fd := T.fd 37 (d := d_law_given) rfl
theorem f_law (T : Top w K mg) : ∃ fd, FunD K "law" "law" (defArgs s_law) (defBody s_law) (defScope s_law) [] [] (He.ga K "law") fd := T.fd 38 (d := d_law) rfl
theorem Top.ex (T : Top w K mg) (i : Nat) {f : PySem.W.Frag → Bool} (h : exL[i]? = some f) : f K = true := let ⟨_, _, _, c⟩ := T.h; List.all_eq_true.mp c.more f (List.mem_of_getElem? h)
theorem ins_Change (T : Top w K mg) : insB K "Change" = true := T.ex 0 rfl
theorem kit_Change_Change (T : Top w K mg) : kitC K "Change" "Change" true = true := T.ex 1 rfl
theorem kit_Change_Surroundings (T : Top w K mg) : kitC K "Change" "Surroundings" false = true := T.ex 2 rfl
theorem ins_Surroundings (T : Top w K mg) : insB K "Surroundings" = true := T.ex 3 rfl
theorem kit_Surroundings_Change (T : Top w K mg) : kitC K "Surroundings" "Change" false = true := T.ex 4 rfl
theorem kit_Surroundings_Surroundings (T : Top w K mg) : kitC K "Surroundings" "Surroundings" true = true := T.ex 5 rfl
theorem spc_Change_eq (T : Top w K mg) : spcB K "Change" "__eq__" = true := T.ex 6 rfl
theorem spc_Change_add (T : Top w K mg) : spcB K "Change" "__add__" = true := T.ex 7 rfl
theorem spc_Change_contains (T : Top w K mg) : spcB K "Change" "__contains__" = true := T.ex 8 rfl
theorem spc_Change_len (T : Top w K mg) : spcB K "Change" "__len__" = true := T.ex 9 rfl
theorem spc_Change_bool (T : Top w K mg) : spcB K "Change" "__bool__" = true := T.ex 10 rfl
theorem spc_Surroundings_getitem (T : Top w K mg) : spcB K "Surroundings" "__getitem__" = true := T.ex 11 rfl
theorem spc_Surroundings_setitem (T : Top w K mg) : spcB K "Surroundings" "__setitem__" = true := T.ex 12 rfl
theorem spc_Surroundings_iter (T : Top w K mg) : spcB K "Surroundings" "__iter__" = true := T.ex 13 rfl
theorem spc_Surroundings_add (T : Top w K mg) : spcB K "Surroundings" "__add__" = true := T.ex 14 rfl
theorem spc_Surroundings_radd (T : Top w K mg) : spcB K "Surroundings" "__radd__" = true := T.ex 15 rfl
theorem spc_Surroundings_iadd (T : Top w K mg) : spcB K "Surroundings" "__iadd__" = true := T.ex 16 rfl
theorem spc_Surroundings_eq (T : Top w K mg) : spcB K "Surroundings" "__eq__" = true := T.ex 17 rfl
theorem spc_Surroundings_contains (T : Top w K mg) : spcB K "Surroundings" "__contains__" = true := T.ex 18 rfl
theorem spc_Surroundings_len (T : Top w K mg) : spcB K "Surroundings" "__len__" = true := T.ex 19 rfl
theorem oex_BadValue (T : Top w K mg) : oexB K (He.ga K "BadValue") = true := T.ex 20 rfl
theorem xf_BadValue (T : Top w K mg) : xfB K (He.ga K "BadValue") = true := T.ex 21 rfl
theorem oex_NoKey (T : Top w K mg) : oexB K (He.ga K "NoKey") = true := T.ex 22 rfl
theorem xf_NoKey (T : Top w K mg) : xfB K (He.ga K "NoKey") = true := T.ex 23 rfl
theorem ne_Change (T : Top w K mg) : neB K "Change" = true := T.ex 24 rfl
theorem ne_Surroundings (T : Top w K mg) : neB K "Surroundings" = true := T.ex 25 rfl
theorem two_Surroundings_Change (T : Top w K mg) : twoB K "Surroundings" "Change" = true := T.ex 26 rfl
theorem two_Change_Surroundings (T : Top w K mg) : twoB K "Change" "Surroundings" = true := T.ex 27 rfl
theorem nsq_Surroundings (T : Top w K mg) : PySem.W.noSeq K (He.ga K "Surroundings") = true := T.ex 28 rfl
end
end RM

set_option Elab.async false
set_option linter.all false
set_option maxRecDepth 100000
set_option maxHeartbeats 2000000
namespace RM
open PySem PySem.Spec PyProof.Rows L2
section
variable {P : Program} {w : World} {K : PySem.W.Frag} {mg : Str → Option Value} {base : Heap}
theorem sc_is_value : FnScope ["value"] ["value"] (defScope s_is_value) := ⟨rfl, rfl, rfl, by decide +kernel, rfl, by decide +kernel, by decide +kernel⟩
def spIsValue : Sp := fun vs H Q _ => match vs with
  | [x] => ∃ n, x = .int n ∧ Q (.bl (isValue n)) H
  | _ => False
/-- data that is no number -/
def noInt : PyData → Bool
  | .int _ => false
  | .dict _ => false
  | _ => true
def spIsValueG (K : PySem.W.Frag) : Sp := fun vs H Q E => spIsValue vs H Q E ∨ match vs with
  | [x] => ∃ d, Dp K H x d ∧ noInt d = true ∧ Q (.bl false) H
  | _ => False
theorem cg_is_value (T : Top w K mg) : Cal P w K mg base CX0 1 "is_value" (spIsValueG K) := by
  refine cal_0 (f_is_value T) (g_is_value T) sc_is_value (fun _ _ _ _ _ _ us hl => match us, hl with | [_], _ => rfl) (fun vs H Q E h => match vs, h with | [_], _ => rfl | [], .inl h => h.elim | [], .inr h => h.elim | _ :: _ :: _, .inl h => h.elim | _ :: _ :: _, .inr h => h.elim) (fun cdv A outer s H vs Q E hr h => ?_)
  match vs, h with
  | [x], h =>
  refine ⟨_, (pss_one (ps_ret (pe_and (pcb (z_isinstance T) call_isi boot_isinstance (pa_cons (pv 0) (pa_cons (pty (z_int T) boot_int) pa_nil))) (pe_and (pe_not (pcb (z_isinstance T) call_isi boot_isinstance (pa_cons (pv 0) (pa_cons (pty (z_bool T) boot_bool) pa_nil)))) (pe_one (pe_chain op_le op_le (pe_un un_neg (pglI (i_GREATEST T))) (pv 0) (pglI (i_GREATEST T)))))))), ?_⟩
  rcases h with h | ⟨d, hd, hn, q⟩
  case inr =>
    cases hd with
    | int i => cases hn
    | non => exact ⟨_, rfl, _, _, _, _, false, rfl, .ty _, .base .non, kit_ty (by decide +kernel), _, rfl, iteF q⟩
    | str z => exact ⟨_, rfl, _, _, _, _, false, rfl, .ty _, .base (.str z), kit_ty (by decide +kernel), _, rfl, iteF q⟩
    | lst h1 _ => exact ⟨_, rfl, _, _, _, _, false, rfl, .ty _, tyL h1, kit_ty (by decide +kernel), _, rfl, iteF q⟩
    | tup h1 _ => exact ⟨_, rfl, _, _, _, _, false, rfl, .ty _, tyT h1, kit_ty (by decide +kernel), _, rfl, iteF q⟩
    | bl b =>
      refine ⟨_, rfl, _, _, _, _, true, rfl, .ty _, .base (.bl b), kit_ty (by decide +kernel), _, rfl, iteT ?_⟩
      exact ⟨_, rfl, _, _, _, _, true, rfl, .ty _, .base (.bl b), kit_ty (by decide +kernel), _, rfl, _, rfl, iteF q⟩
  obtain ⟨n, rfl, q⟩ := h
  refine ⟨_, rfl, _, _, _, _, true, rfl, .ty _, .base (.int _), kit_ty (by decide +kernel), _, rfl, iteT ?_⟩
  refine ⟨_, rfl, _, _, _, _, false, rfl, .ty _, .base (.int _), kit_ty (by decide +kernel), _, rfl, _, rfl, iteT ?_⟩
  refine ⟨_, rfl, _, rfl, _, _, rfl, rfl, _, rfl, ?_⟩
  unfold isValue at q
  by_cases c : -99 ≤ n
  · rw [decide_eq_true c] at q
    rw [decide_eq_true c]
    exact ⟨_, _, rfl, rfl, q⟩
  · rw [decide_eq_false c] at q
    rw [decide_eq_false c]
    exact q
theorem c_is_value (T : Top w K mg) : Cal P w K mg base CX0 1 "is_value" spIsValue := (cg_is_value T).imp fun _ _ _ _ => Or.inl
/-! ### is_word -/
def spIsWord : Sp := fun vs H Q _ => match vs with
  | [x] => ∃ z : Str, x = .str z ∧ z.length ≤ sizeLine ∧ Q (.bl (isWord z)) H
  | _ => False
theorem sc_is_word : FnScope ["value", "letter"] ["value"] (defScope s_is_word) := ⟨rfl, rfl, rfl, by decide +kernel, rfl, by decide +kernel, by decide +kernel⟩
/-- data that is no text -/
def noStr : PyData → Bool
  | .str _ => false
  | .dict _ => false
  | _ => true
def spIsWordG (K : PySem.W.Frag) : Sp := fun vs H Q E => spIsWord vs H Q E ∨ match vs with
  | [x] => ∃ d, Dp K H x d ∧ noStr d = true ∧ Q (.bl false) H
  | _ => False
theorem cg_is_word (T : Top w K mg) : Cal P w K mg base CX0 1 "is_word" (spIsWordG K) := by
  refine cal_0 (f_is_word T) (g_is_word T) sc_is_word (fun _ _ _ _ _ _ us hl => match us, hl with | [_], _ => rfl) (fun vs H Q E h => match vs, h with | [_], _ => rfl | [], .inl h => h.elim | [], .inr h => h.elim | _ :: _ :: _, .inl h => h.elim | _ :: _ :: _, .inr h => h.elim) (fun cdv A outer s H vs Q E hr h => ?_)
  match vs, h with
  | [x], h =>
  refine ⟨_, (pss_cons (ps_if (PW.pt (pw_or (pt_not (pt_val (pcb (z_isinstance T) call_isi boot_isinstance (pa_cons (pv 0) (pa_cons (pty (z_str T) boot_str) pa_nil))))) (pw_or1 (pt_not (pt_chain op_le op_le pe_int (pcb (z_len T) call_len_str boot_len (pa_cons (pv 0) pa_nil)) (pglI (i_LONGEST T)))))))
      (pss_one (ps_ret pe_bl))
      pss_nil)
    (pss_cons (ps_for PassesOwn.never rfl (pi_str (pv 0)) (pg_name (i := 1) sc_is_word.nd rfl (Or.inl rfl))
      (pss_one (ps_if (pt_cmpR op_notIn_sign (pv 1) (pglS (i_LETTERS T)) rfl)
      (pss_one (ps_ret pe_bl))
      pss_nil)))
    (pss_one (ps_ret pe_bl)))), ?_⟩
  rcases h with h | ⟨d, hd, hn, q⟩
  case inr =>
    cases hd with
    | str z => cases hn
    | non => exact ⟨_, rfl, _, _, _, _, false, rfl, .ty _, .base .non, kit_ty (by decide +kernel), _, rfl, iteT q⟩
    | int z => exact ⟨_, rfl, _, _, _, _, false, rfl, .ty _, .base (.int z), kit_ty (by decide +kernel), _, rfl, iteT q⟩
    | bl z => exact ⟨_, rfl, _, _, _, _, false, rfl, .ty _, .base (.bl z), kit_ty (by decide +kernel), _, rfl, iteT q⟩
    | lst h1 _ => exact ⟨_, rfl, _, _, _, _, false, rfl, .ty _, tyL h1, kit_ty (by decide +kernel), _, rfl, iteT q⟩
    | tup h1 _ => exact ⟨_, rfl, _, _, _, _, false, rfl, .ty _, tyT h1, kit_ty (by decide +kernel), _, rfl, iteT q⟩
  obtain ⟨z, rfl, hz, q⟩ := h
  refine ⟨_, rfl, _, _, _, _, true, rfl, .ty _, .base (.str _), kit_ty (by decide +kernel), _, rfl, ?_⟩
  refine iteF ?_
  refine ⟨_, rfl, _, rfl, hz, _, _, rfl, rfl, _, rfl, ?_⟩
  have no : ∀ b : Bool, isWord z = b → Q (.bl b) H := fun b e => by rw [← e]; exact q
  by_cases c1 : 1 ≤ (z.length : Int)
  case neg =>
    rw [decide_eq_false c1]
    exact iteF ⟨_, rfl, iteT (no false (by unfold isWord; rw [decide_eq_false (by omega)]; rfl))⟩
  rw [decide_eq_true c1]
  refine iteT ?_
  refine ⟨_, _, rfl, rfl, _, rfl, ?_⟩
  by_cases c2 : (z.length : Int) ≤ 6
  case neg =>
    rw [decide_eq_false c2]
    exact iteT (no false (by unfold isWord; rw [decide_eq_false (by omega : ¬ z.length ≤ 6), Bool.and_false]; rfl))
  rw [decide_eq_true c2]
  refine iteF ?_
  have e0 : isWord z = z.cps.toList.all isLet := by
    unfold isWord
    rw [decide_eq_true (by omega), decide_eq_true (by omega)]
    rfl
  refine ⟨_, rfl, _, rfl, for_it walk_str (fun i σ H' => H' = H ∧ (∃ v, σ = [some (.str z), v]) ∧ (z.cps.toList.take i).all isLet = true) ⟨rfl, ⟨_, rfl⟩, rfl⟩ (fun _ _ _ _ _ => trivial) ?_ ?_⟩
  · rintro i x σ H1 H2 hi ⟨rfl, ⟨v, rfl⟩, ha⟩ ⟨rfl, c, hc, rfl⟩
    refine ⟨_, rfl, c, _, rfl, rfl, _, rfl, ?_⟩
    have hc' : z.cps.toList[i]? = some c := by simpa using hc
    by_cases m : c ∈ ("abcdefghijklmnopqrstuvwxyz" : Str).cps.toList
    · rw [decide_eq_true m]
      refine iteF ⟨rfl, ⟨_, rfl⟩, ?_⟩
      rw [List.take_add_one, hc', List.all_append, ha]
      show ([c].all isLet) = true
      simp only [List.all_cons, List.all_nil, Bool.and_true]
      exact decide_eq_true m
    · rw [decide_eq_false m]
      refine iteT (no false (e0.trans ?_))
      rw [List.all_eq_false]
      exact ⟨c, List.mem_of_getElem? hc', by unfold isLet; rw [decide_eq_false m]; exact Bool.false_ne_true⟩
  · rintro σ H1 ⟨rfl, ⟨v, rfl⟩, ha⟩
    refine no true (e0.trans ?_)
    rw [← ha, List.take_of_length_le (by simp)]
theorem c_is_word (T : Top w K mg) : Cal P w K mg base CX0 1 "is_word" spIsWord := (cg_is_word T).imp fun _ _ _ _ => Or.inl
end
end RM

set_option Elab.async false
set_option linter.all false
set_option maxRecDepth 100000
set_option maxHeartbeats 2000000
namespace RM
open PySem PySem.Spec PyProof.Rows L2
/-! ### dicts from words to values -/
abbrev WM := List (Str × Int)
def mK (m : WM) : List (Key × V) := m.map fun q => (Sum.inr q.1, V.int q.2)
/-- right words and values, no word twice -/
def okM (m : WM) : Prop := (∀ q ∈ m, isWord q.1 = true ∧ isValue q.2 = true) ∧ (m.map (·.1)).Nodup
theorem mK_get {m : WM} {i : Nat} {k : Key} {v : V} (h : (mK m)[i]? = some (k, v)) : ∃ q, m[i]? = some q ∧ k = .inr q.1 ∧ v = .int q.2 := by
  unfold mK at h
  rw [List.getElem?_map] at h
  obtain ⟨q, hq, e⟩ := Option.map_eq_some_iff.mp h
  injection e with e1 e2
  exact ⟨q, hq, e1.symm, e2.symm⟩
theorem valV_mK : ∀ {m : WM}, (m.map (·.1)).Nodup → ∀ q ∈ m, valV (mK m) (Sum.inr q.1) = some (.int q.2)
  | [], _, q, h => by simp at h
  | p :: r, hn, q, h => by
    rw [List.map_cons, List.nodup_cons] at hn
    rcases List.mem_cons.mp h with rfl | h
    · show (((Sum.inr q.1, V.int q.2) :: mK r).find? fun kv => decide (kv.1 = Sum.inr q.1)).map (·.2) = _
      rw [List.find?_cons_of_pos (by simp)]
      rfl
    · have ne : p.1 ≠ q.1 := fun e => hn.1 (by rw [e]; exact List.mem_map.mpr ⟨q, h, rfl⟩)
      show (((Sum.inr p.1, V.int p.2) :: mK r).find? fun kv => decide (kv.1 = Sum.inr q.1)).map (·.2) = _
      rw [List.find?_cons_of_neg (by simpa using ne)]
      exact valV_mK hn.2 q h
theorem upd_back {H : Hp} {a : Addr} {u o : HO} (h : H a = some u) : upd (upd H a o) a u = H := by
  funext b
  by_cases e : b = a
  · rw [e, upd_same, h]
  · rw [upd_ne e, upd_ne e]
/-- m2 holds what m holds, its words ascending -/
def SortM (m m2 : WM) : Prop := m2.Perm m ∧ sortedS (m2.map (·.1)) = true
/-- what a dict's comprehension adds -/
abbrev addsD (D : Addr) (tk tv : TE) : L2.St → Hp → (Hp → Prop) → Prop := fun σ H N => tk σ H fun y H4 => tv σ H4 fun z H5 => ∃ kvs k, y = kV k ∧ H5 D = some (.dK kvs) ∧ kvs.length < sizeLine ∧ N (upd H5 D (.dK (putK kvs k z)))
/-- a dict's comprehension over a walk: I by the turn -/
theorem dc_walk {J : It} {n : Nat} {G : Hp → Prop} {Y : Nat → Hp → V → Hp → Prop} (wk : Walk J n G Y) {g : TG} {tt : TT} {tk tv : TE} {vs : List Nat} {σ : L2.St} {H1 : Hp} {D : Addr} {Qd : Hp → Prop} (I : Nat → Hp → Prop) (start : I 0 (upd H1 D (.dK [])))
    (stay : ∀ i H, i ≤ n → I i H → G H) (turn : ∀ i x H H', i < n → I i H → Y i H x H' → g x (wipe σ vs) H' fun σ2 H2 => wipe σ2 vs = wipe σ vs ∧ tt σ2 H2 fun b H3 => if b = true then addsD D tk tv σ2 H3 (I (i + 1)) else I (i + 1) H3)
    (last : ∀ H, I n H → Qd H) : ∃ W : Nat → Nat → Hp → Prop, (∃ m, W 0 m (upd H1 D (.dK []))) ∧ Turns J g tt (addsD D tk tv) (wipe σ vs) vs W Qd := by
  refine ⟨fun i m H => m + i = n ∧ I i H, ⟨n, rfl, start⟩, ?_⟩
  rintro i m H ⟨e, hI⟩
  have hG := stay i H (by omega) hI
  cases m with
  | zero =>
    obtain rfl : i = n := by omega
    exact .inl ⟨wk.stops H hG, last H hI⟩
  | succ m => exact .inr ⟨wk.goes i H (by omega) hG, I (i + 1), fun H' h => ⟨m, by omega, by omega, h⟩, fun x H' y => turn i x H H' (by omega) hI (wk.yields i H x H' (by omega) hG y)⟩
/-- the map with the words ks in their order -/
def pick (m : WM) (ks : List Str) : WM := ks.map fun k => (k, ((m.find? fun q => decide (q.1 = k)).map (·.2)).getD 0)
theorem find_own : ∀ {m : WM}, (m.map (·.1)).Nodup → ∀ q ∈ m, ((m.find? fun p => decide (p.1 = q.1)).map (·.2)).getD 0 = q.2
  | [], _, q, h => by simp at h
  | p :: r, hn, q, h => by
    rw [List.map_cons, List.nodup_cons] at hn
    rcases List.mem_cons.mp h with rfl | h
    · rw [List.find?_cons_of_pos (by simp)]
      rfl
    · have ne : p.1 ≠ q.1 := fun e => hn.1 (by rw [e]; exact List.mem_map.mpr ⟨q, h, rfl⟩)
      rw [List.find?_cons_of_neg (by simpa using ne)]
      exact find_own hn.2 q h
theorem pick_keys (m : WM) (ks : List Str) : (pick m ks).map (·.1) = ks := by
  unfold pick
  rw [List.map_map]
  exact List.map_id ks
theorem pick_perm {m : WM} {ks : List Str} (hn : (m.map (·.1)).Nodup) (hp : ks.Perm (m.map (·.1))) : (pick m ks).Perm m := by
  have h := hp.map fun k => (k, ((m.find? fun q => decide (q.1 = k)).map (·.2)).getD 0)
  rw [List.map_map] at h
  have e : m.map ((fun k => (k, ((m.find? fun q => decide (q.1 = k)).map (·.2)).getD 0)) ∘ (·.1)) = m := by
    have key : ∀ l : WM, (∀ q ∈ l, q ∈ m) → l.map ((fun k => (k, ((m.find? fun q => decide (q.1 = k)).map (·.2)).getD 0)) ∘ (·.1)) = l := by
      intro l
      induction l with
      | nil => intro _; rfl
      | cons q r ih =>
        intro hl
        rw [List.map_cons, ih fun x hx => hl x (List.mem_cons_of_mem _ hx)]
        show (q.1, ((m.find? fun p => decide (p.1 = q.1)).map (·.2)).getD 0) :: r = q :: r
        rw [find_own hn q (hl q List.mem_cons_self)]
    exact key m fun _ h => h
  rw [e] at h
  exact h
/-- a new word goes to the end -/
theorem put_new {m : WM} {z : Str} {n : Int} (h : z ∉ m.map (·.1)) : putK (mK m) (Sum.inr z) (.int n) = mK (m ++ [(z, n)]) := by
  have e : ((mK m).any fun kv => decide (kv.1 = Sum.inr z)) = false := by
    rw [List.any_eq_false]
    intro kv hkv
    obtain ⟨q, hq, rfl⟩ := List.mem_map.mp hkv
    simp only [decide_eq_true_eq]
    intro e
    exact h (List.mem_map.mpr ⟨q, hq, Sum.inr.inj e⟩)
  unfold putK
  rw [if_neg (by rw [e]; exact Bool.false_ne_true)]
  unfold mK
  rw [List.map_append]
  rfl
section
variable {P : Program} {w : World} {K : PySem.W.Frag} {mg : Str → Option Value} {base : Heap}
def spChk : Sp := fun vs H Q _ => match vs with
  | [x, y] => ∃ (a : Addr) (m : WM) (least : Nat), x = .ref a ∧ y = .int least ∧ H a = some (.dK (mK m)) ∧ okM m ∧ least ≤ m.length ∧ m.length ≤ 4 ∧
    ∀ p H' m2, Same H H' → H p = none → H' p = some (.dK (mK m2)) → SortM m m2 → Q (.ref p) H'
  | _ => False
theorem sc_checked : FnScope ["values", "least", "key"] ["values", "least"] (defScope s_checked) := ⟨rfl, rfl, rfl, by decide +kernel, rfl, by decide +kernel, by decide +kernel⟩
theorem c_checked (T : Top w K mg) : Cal P w K mg base CX0 3 "checked" spChk := by
  refine cal_0 (f_checked T) (g_checked T) sc_checked (fun _ _ _ _ _ _ us hl => match us, hl with | [_, _], _ => rfl) (fun vs H Q E h => match vs, h with | [_, _], _ => rfl) (fun cdv A outer s H vs Q E hr h => ?_)
  match vs, h with
  | [x, y], h =>
  obtain ⟨a, m, least, rfl, rfl, ha, hg, h1, h2, q⟩ := h
  have lm : (mK m).length = m.length := List.length_map ..
  refine ⟨_, (pss_cons (ps_if (PW.pt (pw_or (pt_not (pt_val (pcb (z_isinstance T) call_isi boot_isinstance (pa_cons (pv 0) (pa_cons (pty (z_dict T) boot_dict) pa_nil))))) (pw_or1 (pt_not (pt_chain op_le op_le (pv 1) (pcb (z_len T) call_lenD boot_len (pa_cons (pv 0) pa_nil)) (pglI (i_MOST T)))))))
      (pss_one ps_never)
      pss_nil)
    (pss_cons (ps_lock (ps_for PassesOwn.never rfl (pi_keys (pv 0)) (pg_name (i := 2) sc_checked.nd rfl (Or.inl rfl))
      (pss_one (ps_if (PW.pt (pw_or (pt_not (pt_val (pc (c_is_word T) hr (pa_cons (pv 2) pa_nil)))) (pw_or1 (pt_not (pt_val (pc (c_is_value T) hr (pa_cons (pe_dget (hu_of hr) (pv 0) (pv 2) (fun _ _ => rfl)) pa_nil)))))))
      (pss_one ps_never)
      pss_nil))))
    (pss_one (ps_ret (pe_dc (own := [("key", 2)]) rfl sc_checked.nd (pi_list (pcb (z_sorted T) (call_sortedD rfl) boot_sorted (pa_cons (pv 0) pa_nil))) (blkOk_by (own := [("key", 2)]) (N := ["values", "least", "key"]) (sc := defScope s_checked) (by decide +kernel)) (fun _ _ _ _ _ => (pg_name (i := 2) sc_checked.nd rfl (Or.inl rfl) (Or.inr rfl))) (fun _ _ _ _ _ => pts_nil) (fun _ _ _ _ _ => (pv 2)) (fun _ _ _ _ _ => (pe_dget (hu_of hr) (pv 0) (pv 2) (fun _ _ => rfl)))))))), ?_⟩
  refine ⟨_, rfl, _, _, _, _, true, rfl, .ty _, .base (.dK ha), kit_ty (by decide +kernel), _, rfl, iteF ?_⟩
  refine ⟨_, rfl, _, rfl, a, mK m, rfl, ha, _, _, rfl, rfl, _, rfl, ?_⟩
  rw [decide_eq_true (by omega : ((least : Nat) : Int) ≤ ((mK m).length : Nat))]
  refine iteT ⟨_, _, rfl, rfl, _, rfl, ?_⟩
  refine ifF (by rw [Bool.not_eq_false', decide_eq_true_eq]; show (((mK m).length : Nat) : Int) ≤ 4; omega) ?_
  -- for key in values
  refine ⟨a, .dK (mK m), ha, trivial, fun od => ?_⟩
  refine ⟨_, rfl, a, od, rfl, .inl ⟨mK m, upd_same, for_it walk_keys (fun i σ H' => H' = upd H a (.frz od (.dK (mK m))) ∧ ∃ v, σ = [some (.ref a), some (.int least), v]) ⟨rfl, _, rfl⟩ (fun i σ H' _ h => by rw [h.1]; exact upd_same) ?_ ?_⟩⟩
  · rintro i x σ H1 H2 hi ⟨rfl, v, rfl⟩ ⟨rfl, k, v2, hk, rfl⟩
    obtain ⟨p, hp, rfl, rfl⟩ := mK_get hk
    have hm := List.mem_of_getElem? hp
    obtain ⟨g1, g2⟩ := hg.1 p hm
    refine ⟨_, rfl, p.1, rfl, word_size g1, ?_⟩
    rw [g1]
    refine ⟨_, rfl, iteF ?_⟩
    refine ⟨_, rfl, _, rfl, a, .int p.2, rfl, .inl ⟨mK m, .inr p.1, .inr ⟨od, upd_same⟩, rfl, (valV_mK hg.2 p hm).symm⟩, p.2, rfl, ?_⟩
    rw [g2]
    exact ⟨_, rfl, ifF rfl ⟨rfl, _, rfl⟩⟩
  · rintro σ H1 ⟨rfl, v, rfl⟩
    refine ⟨upd_same, ?_⟩
    rw [upd_back ha]
    refine ⟨_, rfl, a, mK m, m.map (·.1), rfl, .of ha, by unfold mK; rw [List.map_map, List.map_map]; rfl, by rw [List.length_map]; omega, fun ys p hperm hsort hp => ?_⟩
    refine ⟨p, rfl, ⟨_, SqL.of upd_same⟩, fun D nD => ?_⟩
    have s1 := smNew1 hp (.lst (ys.map V.str))
    have hD0 : H D = none := s1.free nD
    have ly : ys.length = m.length := by rw [hperm.length_eq, List.length_map]
    have nd : ys.Nodup := hperm.nodup_iff.mpr hg.2
    have Dp : D ≠ p := fun z => by rw [z, upd_same] at nD; cases nD
    refine dc_walk walk_list (fun i H' => Same H H' ∧ H' p = some (.lst (ys.map V.str)) ∧ H' D = some (.dK (mK (pick m (ys.take i))))) ⟨smNew s1 nD _, by rw [upd_ne (Ne.symm Dp)]; exact upd_same, upd_same⟩ (fun i H' _ h => SqL.of h.2.1) ?_ ?_
    · rintro i x H1 H2 hi ⟨e, hp1, hD⟩ ⟨rfl, hx⟩
      rw [List.getElem?_map] at hx
      obtain ⟨z, hz, rfl⟩ := Option.map_eq_some_iff.mp hx
      obtain ⟨q1, hq1, rfl⟩ := List.mem_map.mp (hperm.mem_iff.mp (List.mem_of_getElem? hz))
      have il := (List.getElem?_eq_some_iff.mp hz).1
      refine ⟨rfl, yesI ?_⟩
      refine ⟨_, rfl, _, rfl, _, rfl, a, .int q1.2, rfl, .inl ⟨mK m, .inr q1.1, .of (e _ _ ha), rfl, (valV_mK hg.2 q1 hq1).symm⟩, mK (pick m (ys.take i)), .inr q1.1, rfl, hD, small1000 ?_, ?_⟩
      · show ((pick m (ys.take i)).map _).length ≤ 1000
        rw [List.length_map]
        show ((ys.take i).map _).length ≤ 1000
        rw [List.length_map, List.length_take]
        omega
      · have hne : q1.1 ∉ (pick m (ys.take i)).map (·.1) := by
          rw [pick_keys]
          intro hin
          obtain ⟨j, hj, ej⟩ := List.mem_iff_getElem.mp hin
          rw [List.getElem_take] at ej
          have jl : j < i := by rw [List.length_take] at hj; omega
          have := (List.getElem_inj (h₀ := by omega) (h₁ := il) nd).mp (ej.trans (List.getElem?_eq_some_iff.mp hz).2.symm)
          omega
        rw [put_new hne]
        refine ⟨smOut e hD0 _, by rw [upd_ne (Ne.symm Dp)]; exact hp1, ?_⟩
        rw [upd_same, List.take_add_one, hz]
        unfold pick
        rw [List.map_append]
        show some (HO.dK (mK (_ ++ [(q1.1, q1.2)]))) = some (HO.dK (mK (_ ++ [(q1.1, ((m.find? fun q => decide (q.1 = q1.1)).map (·.2)).getD 0)])))
        rw [find_own hg.2 q1 hq1]
    · rintro H1 ⟨e, _, hD⟩
      rw [List.length_map, List.take_length] at hD
      exact q D H1 (pick m ys) e hD0 hD ⟨pick_perm hg.2 hperm, by rw [pick_keys]; exact hsort⟩
end
end RM

set_option Elab.async false
set_option linter.all false
set_option maxRecDepth 100000
set_option maxHeartbeats 2000000
namespace RM
open PySem PySem.Spec PyProof.Rows L2
section
variable {P : Program} {w : World} {K : PySem.W.Frag} {mg : Str → Option Value} {base : Heap}
/-! ### Change(..), Surroundings(..) -/
/-- an object of the class at C whose field f is a dict of words m, ascending -/
def MapAt (H : Hp) (C : Addr) (f : Str) (a : Addr) (m : WM) : Prop := ∃ dx p, H a = some (.ins C dx [(f, .ref p)]) ∧ H p = some (.dK (mK m)) ∧ okM m ∧ sortedS (m.map (·.1)) = true
theorem MapAt.keep {H H' : Hp} {C : Addr} {f : Str} {a : Addr} {m : WM} (e : Same H H') (h : MapAt H C f a m) : MapAt H' C f a m := let ⟨dx, p, h1, h2, h3⟩ := h; ⟨dx, p, e _ _ h1, e _ _ h2, h3⟩
theorem okM_perm {m m2 : WM} (h : okM m) (p : m2.Perm m) : okM m2 := ⟨fun q hq => h.1 q (p.mem_iff.mp hq), (p.map _).nodup_iff.mpr h.2⟩
def spMapInit (C : Addr) (f : Str) (least : Nat) : Sp := fun vs H Q _ => match vs with
  | [x, v] => ∃ a dx b m, x = .ref a ∧ v = .ref b ∧ H a = some (.ins C dx []) ∧ H b = some (.dK (mK m)) ∧ okM m ∧ least ≤ m.length ∧ m.length ≤ 4 ∧
    ∀ H' m2, (∀ b u, b ≠ a → H b = some u → H' b = some u) → MapAt H' C f a m2 → m2.Perm m → Q .non H'
  | _ => False
theorem sc_Change_init : FnScope ["self", "values"] ["self", "values"] (defScope s_Change_init) := ⟨rfl, rfl, rfl, by decide +kernel, rfl, by decide +kernel, by decide +kernel⟩
theorem c_Change_init (T : Top w K mg) : Mak P w K mg base CX0 4 "Change" (He.ga K "Change") (spMapInit (He.ga K "Change") "given" 0) := by
  refine mak_0 (f_Change_init T) (mk_Change T) (g_Change T) sc_Change_init (fun _ _ _ _ _ _ us hl => match us, hl with | [_, _], _ => rfl) (fun vs H Q E h => match vs, h with | [_, _], _ => rfl) (fun cdv A outer s H vs Q E hr h => ?_)
  match vs, h with
  | [x, v], h =>
  obtain ⟨a, dx, b, m, rfl, rfl, ha, hb, hg, h1, h2, q⟩ := h
  refine ⟨_, (pss_one (ps_fld (pv 0) (pc (c_checked T) hr (pa_cons (pv 1) (pa_cons pe_int pa_nil))) rfl)), ?_⟩
  refine ⟨_, rfl, b, m, 0, rfl, rfl, hb, hg, h1, h2, fun p H1 m2 e1 np hp st => ?_⟩
  have ha1 := e1 _ _ ha
  have pa : p ≠ a := fun z => by rw [z, ha] at np; cases np
  refine ⟨_, rfl, a, _, dx, [], rfl, ha1, k_Change T, na_Change_given T, by decide, ?_⟩
  refine q _ m2 (fun c u hc hu => by rw [upd_ne hc]; exact e1 _ _ hu) ⟨dx, p, upd_same, by rw [upd_ne pa]; exact hp, okM_perm hg st.1, st.2⟩ st.1
end
end RM

set_option Elab.async false
set_option linter.all false
set_option maxRecDepth 100000
set_option maxHeartbeats 2000000
namespace RM
open PySem PySem.Spec PyProof.Rows L2
section
variable {P : Program} {w : World} {K : PySem.W.Frag} {mg : Str → Option Value} {base : Heap}
theorem sc_Surroundings_init : FnScope ["self", "values"] ["self", "values"] (defScope s_Surroundings_init) := ⟨rfl, rfl, rfl, by decide +kernel, rfl, by decide +kernel, by decide +kernel⟩
theorem c_Surroundings_init (T : Top w K mg) : Mak P w K mg base CX0 4 "Surroundings" (He.ga K "Surroundings") (spMapInit (He.ga K "Surroundings") "now" 1) := by
  refine mak_0 (f_Surroundings_init T) (mk_Surroundings T) (g_Surroundings T) sc_Surroundings_init (fun _ _ _ _ _ _ us hl => match us, hl with | [_, _], _ => rfl) (fun vs H Q E h => match vs, h with | [_, _], _ => rfl) (fun cdv A outer s H vs Q E hr h => ?_)
  match vs, h with
  | [x, v], h =>
  obtain ⟨a, dx, b, m, rfl, rfl, ha, hb, hg, h1, h2, q⟩ := h
  refine ⟨_, (pss_one (ps_fld (pv 0) (pc (c_checked T) hr (pa_cons (pv 1) (pa_cons pe_int pa_nil))) rfl)), ?_⟩
  refine ⟨_, rfl, b, m, 1, rfl, rfl, hb, hg, h1, h2, fun p H1 m2 e1 np hp st => ?_⟩
  have ha1 := e1 _ _ ha
  have pa : p ≠ a := fun z => by rw [z, ha] at np; cases np
  refine ⟨_, rfl, a, _, dx, [], rfl, ha1, k_Surroundings T, na_Surroundings_now T, by decide, ?_⟩
  refine q _ m2 (fun c u hc hu => by rw [upd_ne hc]; exact e1 _ _ hu) ⟨dx, p, upd_same, by rw [upd_ne pa]; exact hp, okM_perm hg st.1, st.2⟩ st.1
end
end RM

set_option Elab.async false
set_option linter.all false
set_option maxRecDepth 100000
set_option maxHeartbeats 2000000
namespace RM
open PySem PySem.Spec PyProof.Rows L2
section
variable {P : Program} {w : World} {K : PySem.W.Frag} {mg : Str → Option Value} {base : Heap}
/-! ### state -/
def spState (K : PySem.W.Frag) : Sp := fun vs H Q _ => match vs with
  | [x] => ∃ a m, x = .ref a ∧ MapAt H (He.ga K "Surroundings") "now" a m ∧ m.length ≤ 4 ∧ ∀ p H', Same H H' → H' p = some (.tup (m.map fun q => V.int q.2)) → Q (.ref p) H'
  | _ => False
theorem sc_Surroundings_state : FnScope ["self", "key"] ["self"] (defScope s_Surroundings_state) := ⟨rfl, rfl, rfl, by decide +kernel, rfl, by decide +kernel, by decide +kernel⟩
theorem c_Surroundings_state (T : Top w K mg) : Met P w K mg base CX0 2 (He.ga K "Surroundings") "state" (spState K) := by
  refine met_0 (f_Surroundings_state T) (k_Surroundings T) (me_Surroundings_state T) sc_Surroundings_state (fun _ _ _ _ _ _ us hl => match us, hl with | [_], _ => rfl) (fun vs H Q E h => match vs, h with | [_], _ => rfl) (fun cdv A outer s H vs Q E hr h => ?_)
  match vs, h with
  | [x], h =>
  obtain ⟨a, m, rfl, ⟨dx, p, ha, hp, hg, hs⟩, hl, q⟩ := h
  refine ⟨_, (pss_one (ps_ret (pct (z_tuple T) call_tuple_of boot_tuple (pa_cons (pe_lock (pe_lc (own := [("key", 1)]) rfl sc_Surroundings_state.nd (pi_keys (pe_fld (pv 0) rfl)) (blkOk_by (own := [("key", 1)]) (N := ["self", "key"]) (sc := defScope s_Surroundings_state) (by decide +kernel)) (fun _ _ _ _ _ => (pg_name (i := 1) sc_Surroundings_state.nd rfl (Or.inl rfl) (Or.inr rfl))) (fun _ _ _ _ _ => pts_nil) (fun _ _ _ _ _ => (pe_dget (hu_of hr) (pe_fld' (K := K) rfl (pv 0) rfl) (pv 1) (fun _ _ => rfl))))) pa_nil)))), ?_⟩
  have pa : a ≠ p := fun z => by
    rw [z, hp] at ha
    cases ha
  refine ⟨p, .dK (mK m), hp, trivial, fun od => ?_⟩
  have haL : (upd H p (.frz od (.dK (mK m)))) a = some (.ins (He.ga K "Surroundings") dx [("now", .ref p)]) := by rw [upd_ne pa]; exact ha
  refine ⟨_, rfl, a, _, dx, _, _, rfl, haL, k_Surroundings T, na_Surroundings_now T, rfl, p, od, rfl, .inl ⟨mK m, upd_same, fun D nD => ?_⟩⟩
  have lm : (mK m).length = m.length := List.length_map ..
  refine lc_opt walk_keys (fun (n : Int) y _ => y = .int n) (fun i => (m.map (·.2))[i]?) nD (small1000 (by omega)) (fun H' e => e _ _ upd_same) (fun _ _ _ _ h _ => h) (fun _ _ _ _ _ h _ => h) ?_ ?_
  · rintro i x H1 H2 N hi e ⟨rfl, k, v, hk, rfl⟩ hk2 _
    obtain ⟨z, hz, rfl, rfl⟩ := mK_get hk
    have hm := List.mem_of_getElem? hz
    refine ⟨rfl, yesI ?_⟩
    refine ⟨_, rfl, a, _, dx, _, _, rfl, e _ _ haL, k_Surroundings T, na_Surroundings_now T, rfl, _, rfl, p, .int z.2, rfl, .inl ⟨mK m, .inr z.1, .inr ⟨od, e _ _ upd_same⟩, rfl, (valV_mK hg.2 z hm).symm⟩, ?_⟩
    exact hk2 _ _ z.2 (by rw [List.getElem?_map, hz]; rfl) (Same.refl _) rfl
  · intro H' ys e hD hp'
    have el : (mK m).length = (m.map (·.2)).length := by rw [lm, List.length_map]
    rw [el, some_range] at hp'
    have hys : ys = (m.map (·.2)).map V.int := paired_eq hp'
    have eH := e _ _ (upd_same : (upd H p (.frz od (.dK (mK m)))) p = _)
    have Dp : D ≠ p := fun z => by
      rw [z] at hD
      rw [hD] at eH
      cases eH
    refine ⟨eH, D, ys, rfl, .inl ⟨SqL.of (by rw [upd_ne Dp]; exact hD), fun t ht => ?_⟩⟩
    refine q t _ (smNew (fun b u hb => ?_) ht _) ?_
    · by_cases hbp : b = p
      · rw [hbp] at hb ⊢
        rw [upd_same, ← hb, hp]
      · rw [upd_ne hbp]
        exact e _ _ (by rw [upd_ne hbp]; exact hb)
    · rw [upd_same, hys, List.map_map]
      rfl
end
end RM

set_option Elab.async false
set_option linter.all false
set_option maxRecDepth 100000
set_option maxHeartbeats 2000000
/-! reading set comprehensions of texts; rising texts are one -/
namespace RM
open PySem PySem.Spec PyProof.Rows L2
theorem small_scan {n : Nat} (h : n ≤ 1000) : n + 1 < scanBound := by unfold scanBound; omega
/-- one clause -/
theorem scX_of {P : Program} {w : World} {J : It} {n : Nat} {G : Hp → Prop} {Y : Nat → Hp → V → Hp → Prop} (wk : Walk J n G Y) {g : TG} {tt : TT} {te : TE} {vs : List Nat} {σ : L2.St} {H1 : Hp} {D : Addr} {Qd : Hp → Prop}
    (o : Nat → Option Str) (hD : H1 D = none) (hn : n ≤ 1000) (hG : ∀ H, Same H1 H → G H)
    (hs : ∀ i x H H' (N : Hp → Prop), i < n → Same H1 H → Y i H x H' →
      (∀ H4 k, o i = some k → Same H H4 → ∃ c l, V.str k = .str c ∧ H4 D = some (SetX P w D l) ∧ l.length + 1 < scanBound ∧ N (upd H4 D (SetX P w D (insX c l)))) → (o i = none → ∀ H3, Same H H3 → N H3) →
      g x (wipe σ vs) H' fun σ2 H2 => wipe σ2 vs = wipe σ vs ∧ tt σ2 H2 fun b H3 => if b = true then addsX P w D te σ2 H3 N else N H3)
    (hd : ∀ H l, Same H1 H → H D = some (SetX P w D l) → l.length ≤ n → (∀ k, k ∈ l ↔ ∃ i, i < n ∧ o i = some k) → Qd H) :
    ∃ W : Nat → Nat → Hp → Prop, (∃ m, W 0 m (upd H1 D (SetX P w D []))) ∧ Turns J g tt (addsX P w D te) (wipe σ vs) vs W Qd := by
  refine ⟨fun i m H => m = n - i ∧ i ≤ n ∧ Same H1 H ∧ ∃ l, H D = some (SetX P w D l) ∧ l.length ≤ i ∧ ∀ k, k ∈ l ↔ ∃ j, j < i ∧ o j = some k, ⟨n, by simp, Nat.zero_le _, smNew1 hD _, [], upd_same, Nat.le_refl _, fun k => ⟨fun z => by simp at z, fun ⟨j, h, _⟩ => by omega⟩⟩, ?_⟩
  rintro i m H ⟨rfl, hi, s1, l, hl, hll, hm⟩
  by_cases hlt : i < n
  · refine .inr ⟨wk.goes i H hlt (hG H s1), fun H' => Same H1 H' ∧ ∃ l, H' D = some (SetX P w D l) ∧ l.length ≤ i + 1 ∧ ∀ k, k ∈ l ↔ ∃ j, j < i + 1 ∧ o j = some k, fun H' p' => ⟨n - (i + 1), by omega, rfl, hlt, p'⟩, fun x H' y => ?_⟩
    refine hs i x H H' _ hlt s1 (wk.yields i H x H' hlt (hG H s1) y) (fun H4 k ho s4 => ⟨k, l, rfl, s4 _ _ hl, small_scan (by omega), fun b u q => ?_, insX k l, upd_same, Nat.le_trans insX_len (by omega), fun k' => ?_⟩) fun ho H3 s3 => ⟨s1.trans s3, l, s3 _ _ hl, by omega, fun k' => ?_⟩
    · rw [upd_ne (ne_of_none q hD)]
      exact s4 _ _ (s1 _ _ q)
    · rw [insX_mem, hm]
      constructor
      · rintro (rfl | ⟨j, hj, e⟩)
        · exact ⟨i, by omega, ho⟩
        · exact ⟨j, by omega, e⟩
      · rintro ⟨j, hj, e⟩
        by_cases hji : j = i
        · subst hji
          rw [ho] at e
          exact .inl (Option.some.inj e).symm
        · exact .inr ⟨j, by omega, e⟩
    · rw [hm]
      constructor
      · rintro ⟨j, hj, e⟩
        exact ⟨j, by omega, e⟩
      · rintro ⟨j, hj, e⟩
        by_cases hji : j = i
        · subst hji
          rw [ho] at e
          cases e
        · exact ⟨j, by omega, e⟩
  · have e : i = n := by omega
    subst e
    exact .inl ⟨wk.stops H (hG H s1), hd H l s1 hl hll hm⟩
/-- the inner clause's loop: the texts f 0 .. f (n1 - 1) go in -/
theorem scX_in {P : Program} {w : World} {J1 : It} {n1 : Nat} {G1 : Hp → Prop} {Y1 : Nat → Hp → V → Hp → Prop} (wk : Walk J1 n1 G1 Y1) {g1 : TG} {tt1 : TT} {te : TE} {vs1 : List Nat} {σ2 : L2.St} {H0 H4 : Hp} {D : Addr} {N : Hp → Prop} {l0 : List Str}
    (f : Nat → Str) (hD : H0 D = none) (h4 : Same H0 H4) (hl0 : H4 D = some (SetX P w D l0)) (hn : l0.length + n1 ≤ 1000) (hG : ∀ H, Same H0 H → G1 H)
    (hs : ∀ j x H H' (N1 : Hp → Prop), j < n1 → Same H0 H → Y1 j H x H' →
      (∀ H7, Same H H7 → ∃ c l, V.str (f j) = .str c ∧ H7 D = some (SetX P w D l) ∧ l.length + 1 < scanBound ∧ N1 (upd H7 D (SetX P w D (insX c l)))) →
      g1 x (wipe σ2 vs1) H' fun σ3 H5 => wipe σ3 vs1 = wipe σ2 vs1 ∧ tt1 σ3 H5 fun b H6 => if b = true then addsX P w D te σ3 H6 N1 else N1 H6)
    (hd : ∀ H l, Same H0 H → H D = some (SetX P w D l) → l.length ≤ l0.length + n1 → (∀ k, k ∈ l ↔ k ∈ l0 ∨ ∃ j, j < n1 ∧ f j = k) → N H) :
    ∃ W1 : Nat → Nat → Hp → Prop, (∃ m, W1 0 m H4) ∧ Turns J1 g1 tt1 (addsX P w D te) (wipe σ2 vs1) vs1 W1 N := by
  refine ⟨fun i m H => m = n1 - i ∧ i ≤ n1 ∧ Same H0 H ∧ ∃ l, H D = some (SetX P w D l) ∧ l.length ≤ l0.length + i ∧ ∀ k, k ∈ l ↔ k ∈ l0 ∨ ∃ j, j < i ∧ f j = k, ⟨n1, by simp, Nat.zero_le _, h4, l0, hl0, Nat.le_refl _, fun k => ⟨.inl, fun z => z.elim id fun ⟨j, h, _⟩ => by omega⟩⟩, ?_⟩
  rintro i m H ⟨rfl, hi, s1, l, hl, hll, hm⟩
  by_cases hlt : i < n1
  · refine .inr ⟨wk.goes i H hlt (hG H s1), fun H' => Same H0 H' ∧ ∃ l, H' D = some (SetX P w D l) ∧ l.length ≤ l0.length + (i + 1) ∧ ∀ k, k ∈ l ↔ k ∈ l0 ∨ ∃ j, j < i + 1 ∧ f j = k, fun H' p' => ⟨n1 - (i + 1), by omega, rfl, hlt, p'⟩, fun x H' y => ?_⟩
    refine hs i x H H' _ hlt s1 (wk.yields i H x H' hlt (hG H s1) y) fun H7 s7 => ⟨f i, l, rfl, s7 _ _ hl, small_scan (by omega), fun b u q => ?_, insX (f i) l, upd_same, Nat.le_trans insX_len (by omega), fun k' => ?_⟩
    · rw [upd_ne (ne_of_none q hD)]
      exact s7 _ _ (s1 _ _ q)
    · rw [insX_mem, hm]
      constructor
      · rintro (rfl | h | ⟨j, hj, e⟩)
        · exact .inr ⟨i, by omega, rfl⟩
        · exact .inl h
        · exact .inr ⟨j, by omega, e⟩
      · rintro (h | ⟨j, hj, e⟩)
        · exact .inr (.inl h)
        · by_cases hji : j = i
          · subst hji
            exact .inl e.symm
          · exact .inr (.inr ⟨j, by omega, e⟩)
  · have e : i = n1 := by omega
    subst e
    exact .inl ⟨wk.stops H (hG H s1), hd H l s1 hl hll hm⟩
/-! ### rising texts -/
/-- the members zs, each once, in the order of texts -/
def KeysOf (ks zs : List Str) : Prop := sortedS ks = true ∧ ks.Nodup ∧ ∀ k, k ∈ ks ↔ k ∈ zs
theorem rising_pw : ∀ (l : List Str) (p : Str), risingS p l = true → (p :: l).Pairwise fun a b => ¬ b.cps.toList < a.cps.toList
  | [], p, _ => List.pairwise_singleton _ _
  | x :: r, p, h => by
    have h' : (!ltCps x.cps.toList p.cps.toList && risingS x r) = true := h
    rw [Bool.and_eq_true] at h'
    have ih := rising_pw r x h'.2
    have h1 : ¬ x.cps.toList < p.cps.toList := fun z => by
      have := h'.1
      rw [ltCps_eq, decide_eq_true z] at this
      cases this
    refine List.pairwise_cons.mpr ⟨fun y hy => ?_, ih⟩
    rcases List.mem_cons.mp hy with rfl | hy
    · exact h1
    · have h2 := (List.pairwise_cons.mp ih).1 y hy
      exact List.not_lt.mpr (List.le_trans (List.not_lt.mp h1) (List.not_lt.mp h2))
theorem sorted_pw : ∀ {l : List Str}, sortedS l = true → l.Pairwise fun a b => ¬ b.cps.toList < a.cps.toList
  | [], _ => .nil
  | x :: r, h => rising_pw r x h
theorem str_antisymm {a b : Str} (h1 : ¬ b.cps.toList < a.cps.toList) (h2 : ¬ a.cps.toList < b.cps.toList) : a = b := by
  have e := List.le_antisymm (List.not_lt.mp h1) (List.not_lt.mp h2)
  obtain ⟨⟨x⟩⟩ := a
  obtain ⟨⟨y⟩⟩ := b
  have e' : x = y := e
  rw [e']
theorem pw_one : ∀ {l m : List Str}, l.Pairwise (fun a b => ¬ b.cps.toList < a.cps.toList) → m.Pairwise (fun a b => ¬ b.cps.toList < a.cps.toList) → l.Nodup → m.Nodup → (∀ k, k ∈ l ↔ k ∈ m) → l = m
  | [], [], _, _, _, _, _ => rfl
  | [], y :: m, _, _, _, _, h => by simpa using (h y).mpr List.mem_cons_self
  | x :: l, [], _, _, _, _, h => by simpa using (h x).mp List.mem_cons_self
  | x :: l, y :: m, hl, hm, nl, nm, h => by
    obtain ⟨l1, l2⟩ := List.pairwise_cons.mp hl
    obtain ⟨m1, m2⟩ := List.pairwise_cons.mp hm
    obtain ⟨a1, a2⟩ := List.nodup_cons.mp nl
    obtain ⟨b1, b2⟩ := List.nodup_cons.mp nm
    have e : x = y := by
      rcases List.mem_cons.mp ((h x).mp List.mem_cons_self) with e | hx
      · exact e
      · rcases List.mem_cons.mp ((h y).mpr List.mem_cons_self) with e | hy
        · exact e.symm
        · exact str_antisymm (l1 y hy) (m1 x hx)
    subst e
    rw [pw_one l2 m2 a2 b2 fun k => ?_]
    constructor
    · intro hk
      rcases List.mem_cons.mp ((h k).mp (List.mem_cons_of_mem _ hk)) with e | z
      · exact absurd (e ▸ hk) a1
      · exact z
    · intro hk
      rcases List.mem_cons.mp ((h k).mpr (List.mem_cons_of_mem _ hk)) with e | z
      · exact absurd (e ▸ hk) b1
      · exact z
theorem KeysOf.one {ks ks' zs zs' : List Str} (a : KeysOf ks zs) (b : KeysOf ks' zs') (h : ∀ k, k ∈ zs ↔ k ∈ zs') : ks = ks' :=
  pw_one (sorted_pw a.1) (sorted_pw b.1) a.2.1 b.2.1 fun k => (a.2.2 k).trans ((h k).trans (b.2.2 k).symm)
theorem KeysOf.of {ks l zs : List Str} (p : ks.Perm l) (nd : l.Nodup) (s : sortedS ks = true) (h : ∀ k, k ∈ l ↔ k ∈ zs) : KeysOf ks zs := ⟨s, p.nodup_iff.mpr nd, fun k => p.mem_iff.trans (h k)⟩
end RM

set_option Elab.async false
set_option linter.all false
set_option maxRecDepth 100000
set_option maxHeartbeats 2000000
/-! dicts of words: what is got, put over one another -/
namespace RM
open PySem PySem.Spec PyProof.Rows L2
def wKeys (m : WM) : List Str := m.map (·.1)
def wVals (m : WM) : List Int := m.map (·.2)
def wGet (m : WM) (k : Str) : Option Int := (m.find? fun q => decide (q.1 = k)).map (·.2)
theorem wGet_nil (k : Str) : wGet [] k = none := rfl
theorem wGet_cons (p : Str × Int) (r : WM) (k : Str) : wGet (p :: r) k = if p.1 = k then some p.2 else wGet r k := by
  unfold wGet
  by_cases e : p.1 = k
  · rw [List.find?_cons_of_pos (by simpa using e), if_pos e]
    rfl
  · rw [List.find?_cons_of_neg (by simpa using e), if_neg e]
theorem wGet_none {m : WM} {k : Str} : wGet m k = none ↔ k ∉ wKeys m := by
  induction m with
  | nil => simp [wGet_nil, wKeys]
  | cons p r ih =>
    rw [wGet_cons]
    show _ ↔ k ∉ p.1 :: wKeys r
    by_cases e : p.1 = k
    · rw [if_pos e, e]
      simp
    · rw [if_neg e, ih, List.mem_cons, not_or]
      exact ⟨fun h => ⟨Ne.symm e, h⟩, fun h => h.2⟩
theorem wGet_mem {m : WM} (hn : (wKeys m).Nodup) {q : Str × Int} (h : q ∈ m) : wGet m q.1 = some q.2 := by
  induction m with
  | nil => simp at h
  | cons p r ih =>
    have hn' : (p.1 :: wKeys r).Nodup := hn
    rw [List.nodup_cons] at hn'
    rw [wGet_cons]
    rcases List.mem_cons.mp h with rfl | h
    · rw [if_pos rfl]
    · rw [if_neg fun e => hn'.1 (by rw [e]; exact List.mem_map.mpr ⟨q, h, rfl⟩)]
      exact ih hn'.2 h
theorem wGet_some {m : WM} {k : Str} {n : Int} (h : wGet m k = some n) : (k, n) ∈ m := by
  induction m with
  | nil => simp [wGet_nil] at h
  | cons p r ih =>
    rw [wGet_cons] at h
    by_cases e : p.1 = k
    · rw [if_pos e] at h
      rw [← e, ← Option.some.inj h]
      exact List.mem_cons_self
    · rw [if_neg e] at h
      exact List.mem_cons_of_mem _ (ih h)
theorem wGet_perm {m g : WM} (hn : (wKeys g).Nodup) (p : m.Perm g) (k : Str) : wGet m k = wGet g k := by
  have hm : (wKeys m).Nodup := (p.map _).nodup_iff.mpr hn
  cases e : wGet m k with
  | none =>
    symm
    rw [wGet_none] at e ⊢
    exact fun h => e ((p.map (·.1)).mem_iff.mpr h)
  | some n => exact (wGet_mem hn (q := (k, n)) (p.mem_iff.mp (wGet_some e))).symm
theorem valV_get (m : WM) (k : Str) : valV (mK m) (Sum.inr k) = (wGet m k).map V.int := by
  induction m with
  | nil => rfl
  | cons p r ih =>
    rw [wGet_cons]
    show valV ((Sum.inr p.1, V.int p.2) :: mK r) (Sum.inr k) = _
    by_cases e : p.1 = k
    · rw [valV_pos (by show Sum.inr p.1 = _; rw [e]), if_pos e]
      rfl
    · rw [valV_neg (by show ¬ Sum.inr p.1 = _; exact fun z => e (Sum.inr.inj z)), if_neg e, ih]
def wPut (m : WM) (k : Str) (n : Int) : WM := if k ∈ wKeys m then m.map (fun q => if q.1 = k then (k, n) else q) else m ++ [(k, n)]
theorem putK_w (m : WM) (k : Str) (n : Int) : putK (mK m) (Sum.inr k) (.int n) = mK (wPut m k n) := by
  have a : ((mK m).any fun kv => decide (kv.1 = Sum.inr k)) = decide (k ∈ wKeys m) := by
    rw [Bool.eq_iff_iff, List.any_eq_true, decide_eq_true_iff]
    constructor
    · rintro ⟨kv, h, e⟩
      obtain ⟨q, hq, rfl⟩ := List.mem_map.mp h
      exact List.mem_map.mpr ⟨q, hq, Sum.inr.inj (of_decide_eq_true e)⟩
    · intro h
      obtain ⟨q, hq, e⟩ := List.mem_map.mp h
      exact ⟨(Sum.inr q.1, .int q.2), List.mem_map.mpr ⟨q, hq, rfl⟩, decide_eq_true (by rw [e])⟩
  unfold putK wPut
  rw [a]
  by_cases h : k ∈ wKeys m
  · rw [if_pos (decide_eq_true h), if_pos h]
    unfold mK
    rw [List.map_map, List.map_map]
    refine List.map_congr_left fun q _ => ?_
    show (if Sum.inr q.1 = Sum.inr k then _ else _) = (fun q : Str × Int => ((Sum.inr q.1 : Key), V.int q.2)) (if q.1 = k then (k, n) else q)
    by_cases e : q.1 = k
    · rw [if_pos (by rw [e]), if_pos e]
      show (Sum.inr q.1, V.int n) = (Sum.inr k, V.int n)
      rw [e]
    · rw [if_neg (fun z => e (Sum.inr.inj z)), if_neg e]
  · rw [if_neg (by simpa using h), if_neg h]
    unfold mK
    rw [List.map_append]
    rfl
theorem wKeys_put (m : WM) (k : Str) (n : Int) : wKeys (wPut m k n) = if k ∈ wKeys m then wKeys m else wKeys m ++ [k] := by
  unfold wPut
  by_cases h : k ∈ wKeys m
  · rw [if_pos h, if_pos h]
    unfold wKeys
    rw [List.map_map]
    refine List.map_congr_left fun q _ => ?_
    show (if q.1 = k then (k, n) else q).1 = q.1
    by_cases e : q.1 = k
    · rw [if_pos e, e]
    · rw [if_neg e]
  · rw [if_neg h, if_neg h]
    unfold wKeys
    rw [List.map_append]
    rfl
theorem wGet_app (m : WM) (k j : Str) (n : Int) : wGet (m ++ [(k, n)]) j = (wGet m j).or (if k = j then some n else none) := by
  induction m with
  | nil => rw [List.nil_append, wGet_cons]; rfl
  | cons p r ih =>
    rw [List.cons_append, wGet_cons, wGet_cons, ih]
    by_cases e : p.1 = j
    · rw [if_pos e, if_pos e]
      rfl
    · rw [if_neg e, if_neg e]
theorem wGet_put (m : WM) (k j : Str) (n : Int) : wGet (wPut m k n) j = if k = j then some n else wGet m j := by
  unfold wPut
  by_cases h : k ∈ wKeys m
  · rw [if_pos h]
    by_cases e : k = j
    · rw [if_pos e, ← e]
      clear e j
      induction m with
      | nil => simp [wKeys] at h
      | cons p r ih =>
        rw [List.map_cons, wGet_cons]
        by_cases e : p.1 = k
        · rw [if_pos e, if_pos rfl]
        · rw [if_neg e, if_neg e]
          have h' : k ∈ p.1 :: wKeys r := h
          rcases List.mem_cons.mp h' with z | z
          · exact absurd z.symm e
          · exact ih z
    · rw [if_neg e]
      clear h
      induction m with
      | nil => rfl
      | cons p r ih =>
        rw [List.map_cons, wGet_cons, wGet_cons, ih]
        by_cases q : p.1 = k
        · rw [if_pos q, if_neg e, if_neg (by rw [q]; exact e)]
        · rw [if_neg q]
  · rw [if_neg h, wGet_app]
    by_cases e : k = j
    · rw [if_pos e, if_pos e, ← e, wGet_none.mpr h]
      rfl
    · rw [if_neg e, if_neg e, Option.or_none]
/-- g over m -/
def wOver (m g : WM) : WM := g.foldl (fun acc q => wPut acc q.1 q.2) m
theorem mergeK_w (m g : WM) : mergeK (mK m) (mK g) = mK (wOver m g) := by
  induction g generalizing m with
  | nil => rfl
  | cons q r ih =>
    show mergeK (putK (mK m) (Sum.inr q.1) (.int q.2)) (mK r) = mK (wOver (wPut m q.1 q.2) r)
    rw [putK_w, ih]
theorem nodup_put {m : WM} (h : (wKeys m).Nodup) (k : Str) (n : Int) : (wKeys (wPut m k n)).Nodup := by
  rw [wKeys_put]
  by_cases e : k ∈ wKeys m
  · rw [if_pos e]
    exact h
  · rw [if_neg e]
    refine List.nodup_append.mpr ⟨h, by simp, fun x hx y hy z => ?_⟩
    rw [List.mem_singleton.mp hy] at z
    exact e (z ▸ hx)
theorem nodup_over {m : WM} (h : (wKeys m).Nodup) (g : WM) : (wKeys (wOver m g)).Nodup := by
  induction g generalizing m with
  | nil => exact h
  | cons q r ih => exact ih (nodup_put h q.1 q.2)
theorem wGet_over {m g : WM} (h : (wKeys g).Nodup) (k : Str) : wGet (wOver m g) k = (wGet g k).or (wGet m k) := by
  induction g generalizing m with
  | nil => rw [wGet_nil]; rfl
  | cons q r ih =>
    have h' : (q.1 :: wKeys r).Nodup := h
    rw [List.nodup_cons] at h'
    show wGet (wOver (wPut m q.1 q.2) r) k = _
    rw [ih h'.2, wGet_put, wGet_cons]
    by_cases e : q.1 = k
    · rw [if_pos e, if_pos e, wGet_none.mpr (by rw [← e]; exact h'.1)]
      rfl
    · rw [if_neg e, if_neg e]
theorem wKeys_over {m g : WM} (h : ∀ k ∈ wKeys g, k ∈ wKeys m) : wKeys (wOver m g) = wKeys m := by
  induction g generalizing m with
  | nil => rfl
  | cons q r ih =>
    have hq : q.1 ∈ wKeys m := h _ List.mem_cons_self
    have e : wKeys (wPut m q.1 q.2) = wKeys m := by rw [wKeys_put, if_pos hq]
    show wKeys (wOver (wPut m q.1 q.2) r) = _
    rw [ih (fun k hk => by rw [e]; exact h _ (List.mem_cons_of_mem _ hk)), e]
/-- a map is told by its keys and what is got -/
theorem w_ext {m : WM} (hn : (wKeys m).Nodup) : m = (wKeys m).map fun k => (k, (wGet m k).getD 0) := by
  have key : ∀ l : WM, (∀ q ∈ l, q ∈ m) → l = (wKeys l).map fun k => (k, (wGet m k).getD 0) := by
    intro l
    induction l with
    | nil => intro _; rfl
    | cons q r ih =>
      intro hl
      show q :: r = (q.1, (wGet m q.1).getD 0) :: _
      rw [wGet_mem hn (hl q List.mem_cons_self)]
      exact congrArg _ (ih fun x hx => hl x (List.mem_cons_of_mem _ hx))
  exact key m fun _ h => h
theorem okM_put {m : WM} (h : okM m) {k : Str} {n : Int} (hk : isWord k = true) (hn : isValue n = true) : okM (wPut m k n) := by
  refine ⟨fun q hq => ?_, nodup_put h.2 k n⟩
  unfold wPut at hq
  split at hq
  · obtain ⟨p, hp, rfl⟩ := List.mem_map.mp hq
    by_cases e : p.1 = k
    · rw [if_pos e]
      exact ⟨hk, hn⟩
    · rw [if_neg e]
      exact h.1 p hp
  · rcases List.mem_append.mp hq with hq | hq
    · exact h.1 q hq
    · rw [List.mem_singleton.mp hq]
      exact ⟨hk, hn⟩
theorem okM_over {m g : WM} (h : okM m) (hg : ∀ q ∈ g, isWord q.1 = true ∧ isValue q.2 = true) : okM (wOver m g) := by
  induction g generalizing m with
  | nil => exact h
  | cons q r ih =>
    obtain ⟨h1, h2⟩ := hg q List.mem_cons_self
    exact ih (okM_put h h1 h2) fun x hx => hg x (List.mem_cons_of_mem _ hx)
theorem wOver_nil {m : WM} (hn : (wKeys m).Nodup) : wOver [] m = m := by
  have key : ∀ (g acc : WM), (wKeys (acc ++ g)).Nodup → wOver acc g = acc ++ g := by
    intro g
    induction g with
    | nil => intro acc _; rw [List.append_nil]; rfl
    | cons q r ih =>
      intro acc h
      have hq : q.1 ∉ wKeys acc := by
        unfold wKeys at h ⊢
        rw [List.map_append, List.nodup_append] at h
        exact fun z => h.2.2 q.1 z q.1 List.mem_cons_self rfl
      have e : wPut acc q.1 q.2 = acc ++ [q] := by unfold wPut; rw [if_neg hq]
      show wOver (wPut acc q.1 q.2) r = _
      rw [e, ih (acc ++ [q]) (by rw [List.append_assoc]; exact h), List.append_assoc]
      rfl
  exact key m [] hn
/-! ### ascending keys are one alone -/
theorem sort_one {m m2 : WM} (p : m2.Perm m) (hn : (wKeys m).Nodup) (s1 : sortedS (wKeys m) = true) (s2 : sortedS (wKeys m2) = true) : m2 = m := by
  have n2 : (wKeys m2).Nodup := (p.map _).nodup_iff.mpr hn
  have e : wKeys m2 = wKeys m := pw_one (sorted_pw s2) (sorted_pw s1) n2 hn fun k => (p.map (·.1)).mem_iff
  rw [w_ext n2, w_ext hn, e]
  exact List.map_congr_left fun k _ => by rw [wGet_perm hn p k]
end RM

set_option Elab.async false
set_option linter.all false
set_option maxRecDepth 100000
set_option maxHeartbeats 2000000
namespace RM
open PySem PySem.Spec PyProof.Rows L2
theorem room0 {k : Nat} {A : Around} (hr : Room k A) : A.units < cLine := by have := hr.un; omega
theorem rd_lock {H : Hp} {b p : Addr} {u v : HO} {od : Obj} (hb : H b = some u) (hp : H p = some v) : Rd (upd H p (.frz od v)) b u := by
  by_cases e : b = p
  · rw [e, hp] at hb
    cases hb
    rw [e]
    exact .inr ⟨od, upd_same⟩
  · exact .inl (by rw [upd_ne e]; exact hb)
theorem same_back {H H' : Hp} {p : Addr} {u : HO} {od : Obj} (hp : H p = some u) (e : Same (upd H p (.frz od u)) H') : Same H (upd H' p u) := fun b o hb => by
  by_cases z : b = p
  · rw [z] at hb ⊢
    rw [upd_same, ← hb, hp]
  · rw [upd_ne z]
    exact e _ _ (by rw [upd_ne z]; exact hb)
section
variable {P : Program} {w : World} {K : PySem.W.Frag} {mg : Str → Option Value} {base : Heap}
def ChgAt (K : PySem.W.Frag) (H : Hp) (a : Addr) (m : WM) : Prop := MapAt H (He.ga K "Change") "given" a m ∧ m.length ≤ 4
theorem ChgAt.keep {H H' : Hp} {a : Addr} {m : WM} (e : Same H H') (h : ChgAt K H a m) : ChgAt K H' a m := ⟨h.1.keep e, h.2⟩
theorem ChgAt.ok {H : Hp} {a : Addr} {m : WM} (h : ChgAt K H a m) : okM m ∧ sortedS (wKeys m) = true := let ⟨⟨_, _, _, _, a, b⟩, _⟩ := h; ⟨a, b⟩
end
end RM

set_option Elab.async false
set_option linter.all false
set_option maxRecDepth 100000
set_option maxHeartbeats 2000000
/-! tuple(a dict), {**a, **b} -/
namespace RM
open PySem PySem.Spec PyProof.Rows L2
section
variable {X : Cx}
/-- tuple(d): its keys -/
theorem call_tupleD (hcalm : X.calm = true) : CallR X (.type "tuple") (fun xs H Q => ∃ (a : Addr) (kvs : List (Key × V)), xs = [.ref a] ∧ Rd H a (.dK kvs) ∧ ∀ p, H p = none → Q (.ref p) (upd H p (.tup (kvs.map fun kv => kV kv.1)))) := by
  rintro pins s σ H xs us Q I r ⟨a, kvs, rfl, hd, q⟩
  obtain ⟨u, rfl, rx⟩ := vals1 r
  cases rx
  obtain ⟨z, lo, vs, rel, dd⟩ := dk_rd I.hok hd
  obtain ⟨ep, hat⟩ := dd.dictAt
  have lv : kvs.length = vs.length := rel.length
  have ks : (kvs.map fun kv => kV kv.1) = vs.map fun p => kV p.1 := by
    have := congrArg (List.map kV) rel.keys
    rw [List.map_map, List.map_map] at this
    exact this
  refine callType_codes (Q₁ := fun obj s₁ => s₁.TypeIs obj "tuple" ∧ EP X pins σ Q obj s₁) PySem.F.called_tuple (PySem.F.typeCall_tuple_1 _) PySem.F.entry_object_init ?_ fun obj s₁ h₁ =>
    ⟨h₁.1, PySem.F.args_object_init_2 obj _, object_init_meets PySem.F.called_tuple.init.lookup PySem.F.called_tuple.made (by decide) X.prog X.w X.A.in1 _ s₁ ⟨h₁.1, rfl, h₁.2⟩⟩
  refine codeAny_of_tree ?_
  show wpAny _ X.A.in1.in1 (do checkBuiltinCall "tuple.__new__" ⟨[.type "tuple", .ref a], []⟩; again (.builtin "tuple.__new__" ⟨[.type "tuple", .ref a], []⟩)) _ _ s
  refine wpAny_bind (wpAny_of_eq (PySem.F.newCall_tuple_1 _) (wpAny_pure ⟨plainId_quiet PySem.F.plain_tuple_new _, codeAny_builtin PySem.F.entry_tuple_new ?_⟩))
  rw [Around.under_plainId PySem.F.plain_tuple_new _]
  have c1 := sub_tuple_self
  have c2 := init_tuple_lookup
  have c3 := madeHere_tuple
  have ty : s.TypeIs (.ref a) "dict" := dd.typeIs
  have K := PySem.W.kdl_dict (prog := X.prog) (w := X.w) (knd := mixKind X.prog X.w) (kvs := vs) (ep := ep) lo
  have sz0 : vs.length ≤ sizeLine := lv ▸ z
  wp_walk using wpAny_typeOf ty, PySem.W.kdu_collect K (show X.A.in1.in1.handled = none from I.ok.hd hcalm) hat sz0
  intro h' tk acc hk hacc
  show wpAny _ _ (Builtin.Tuple.tupleExact acc.toList.toArray >>= fun v => ret v) _ _ _
  unfold Builtin.Tuple.tupleExact
  have sz : acc.toList.toArray.size ≤ sizeLine := by
    simp only [Array.toArray_toList]
    rw [hacc.1, ← lv]
    exact z
  refine wpAny_bind (wpAny_newObj_type ?_ sz)
  refine wpAny_pure ⟨⟨_, Heap.get?_push_size _ rfl, rfl⟩, ?_⟩
  have hv : Vals (kvs.map fun kv => kV kv.1) acc.toList := by
    rw [ks]
    exact keys_at (by rw [Array.length_toList]; exact hacc.1) fun j v e => hacc.2 j v (by rw [← Array.getElem?_toList]; exact e)
  have I1 : Inv X pins σ H { s with heap := h', toks := tk } := I.kept hk
  exact ⟨.ref h'.objs.size, _, I1.laid (t' := tk) (fun b o e => Heap.get?_push_of_some _ e) (Nat.le_refl _) (show ObjOk X.prog X.w _ _ _ (.tup (kvs.map fun kv => kV kv.1)) from ⟨by rw [List.length_map]; exact z, acc.toList, hv, IsTup.new _ _⟩), rfl, q _ (I1.hok.fresh (Nat.le_refl _))⟩
end
/-! ### {**a, **b} -/
section
variable {prog : Program} {w : World} {κ : Type} [DecidableEq κ] {knd : KeyKind prog w κ} {A : Around} {E : Value → Shared → Prop} {s : Shared} {d a : Addr} {kvs more : List (κ × Value)}
/-- one entry is put -/
theorem put_pair {k : κ} {key v : Value} {Q : Unit → Shared → Prop} (hkey : knd.is k key = true) (hm : s.heap.DictOf knd d kvs) (sz : kvs.length ≤ sizeLine)
    (then_ : ∀ h', h'.DictOf knd d (stored kvs k v) → Heap.SameBut d s.heap h' → Q () { s with heap := h' }) : wpAny (model prog w) A (dictPut d (knd.hash k) key v) Q E s := by
  obtain ⟨o, es, ep, ho, hc, hd, hk, hp, once⟩ := hm
  have same : (es.findIdx? fun e => knd.is k e.key) = kvs.findIdx? fun kv => decide (kv.1 = k) := by
    rw [← hp.findIdx k]
    obtain ⟨l⟩ := es
    simp
  have small : es.size ≤ sizeLine := by
    have e1 := hp.length
    have e2 : es.toList.length = es.size := by simp
    omega
  unfold dictPut
  refine wpAny_bind (wpAny_dictFind_of hkey ho hd hk ?_)
  cases at_ : es.findIdx? fun e => knd.is k e.key with
  | some i =>
    refine wpAny_updateDict ho hd (then_ _ ⟨_, _, ep, Heap.get?_update_self _ ho (Obj.isFreed_of_dict (Obj.data_mapDict hd _)), hc.mapDict _, Obj.data_mapDict hd _, hk.modify _ _, ?_, ?_⟩ (Heap.SameBut.update ..))
    · rw [stored, if_pos (any_of_findIdx_some (same ▸ at_))]
      have hl : (es.toList.findIdx? fun e => knd.is k e.key) = some i := by
        rw [← at_]
        obtain ⟨l⟩ := es
        simp
      have := hp.modify once hl v
      obtain ⟨l⟩ := es
      simpa using this
    · rw [stored, if_pos (any_of_findIdx_some (same ▸ at_)), keys_map_store]
      exact once
  | none =>
    have out : k ∉ kvs.map (·.1) := not_mem_of_findIdx_none (same ▸ at_)
    have no : ¬ (kvs.any fun kv => decide (kv.1 = k)) = true := fun h => by
      obtain ⟨kv, hkv, he⟩ := List.any_eq_true.mp h
      exact out (List.mem_map.mpr ⟨kv, hkv, of_decide_eq_true he⟩)
    refine wpAny_updateDictKeys (hz := small) ho hd (then_ _ ⟨_, _, ep + 1, Heap.get?_update_self _ ho (Obj.isFreed_of_dict (Obj.data_mapDictKeys hd _)), hc.mapDictKeys _, Obj.data_mapDictKeys hd _, hk.push hkey _, ?_, ?_⟩ (Heap.SameBut.update ..))
    · rw [stored, if_neg no]
      have := hp.append hkey (knd.hash k) v
      obtain ⟨l⟩ := es
      simpa using this
    · rw [stored, if_neg no, List.map_append]
      refine List.nodup_append.mpr ⟨once, by simp, fun x hx y hy e => ?_⟩
      simp only [List.map_cons, List.map_nil, List.mem_singleton] at hy
      exact out (hy ▸ e ▸ hx)
end
end RM

set_option Elab.async false
set_option linter.all false
set_option maxRecDepth 100000
set_option maxHeartbeats 2000000
/-! {**a, **b} -/
namespace RM
open PySem PySem.Spec PyProof.Rows L2
section
variable {prog : Program} {w : World} {κ : Type} [DecidableEq κ] {knd : PySem.KeyKind prog w κ} {A : Around} {E : Value → Shared → Prop} {s : Shared} {d a : Addr} {kvs more : List (κ × Value)}
theorem merge_in {Q : Unit → Shared → Prop} (ne : d ≠ a) (lo : (a == sysModules) = false) (hd : s.heap.DictOf knd d kvs) (ha : s.heap.DictOf knd a more) (sz : kvs.length + more.length ≤ sizeLine)
    (then_ : ∀ h', h'.DictOf knd d (merged kvs more) → Heap.SameBut d s.heap h' → Q () { s with heap := h' }) : wpAny (model prog w) A (mergeMapping d (.ref a) false) Q E s := by
  obtain ⟨od, esd, epd, hod, _, hdd, _, _, _⟩ := id hd
  obtain ⟨oa, esa, epa, hoa, hca, hda, hka, hpa, hna⟩ := id ha
  have len : more.length = esa.size := by rw [← hpa.length]; simp
  unfold mergeMapping
  refine wpAny_bind (wpAny_isInstance ha.typeIs isSubtype_dict_dict ?_)
  rw [if_pos rfl]
  refine wpAny_bind (wpAny_specialOf ha.typeIs PySem.F.slot_dict_iter.lookup ?_)
  refine wpAny_bind (wpAny_pure ?_)
  rw [show (some (Value.builtin "dict.__iter__") == some (Value.builtin "dict.__iter__")) = true by decide]
  dsimp only
  rw [if_neg (by rw [lo]; exact Bool.false_ne_true)]
  have loop : wpAny (model prog w) A (do
      let es ← dictEntries a
      let epoch ← dictEpoch a
      forIn (List.range es.size) PUnit.unit fun i (_ : PUnit) => (do
          let es ← dictEntries a
          match es[i]? with
            | some e => do
              holding [e.key, e.val]
                  (if false = true then do
                    let l ← dictFind d e.key e.hash
                    if l.isSome = true then do
                        rule "dict.merge.duplicate-key"
                        let x ← newExc (Value.type "KeyError") [e.key]
                        raiseNew x
                        dictPut d e.hash e.key e.val
                      else dictPut d e.hash e.key e.val
                  else dictPut d e.hash e.key e.val)
              let ep ← dictEpoch a
              if (ep != epoch) = true then do
                  (unsupported "dict.changed-during-merge" : Sem PUnit)
                  pure (ForInStep.yield PUnit.unit)
                else pure (ForInStep.yield PUnit.unit)
            | _ => do
              (unsupported "dict.changed-during-merge" : Sem PUnit)
              pure (ForInStep.yield PUnit.unit) : Sem (ForInStep PUnit))
      pure ()) Q E s := by
    refine wpAny_bind (wpAny_dictEntries hoa hda (wpAny_bind (wpAny_dictEpoch hoa hda (wpAny_bind ?_))))
    refine wpAny_forIn_list _ (fun rest _ s' => ∃ h' i, s' = { s with heap := h' } ∧ rest = (List.range esa.size).drop i ∧ i ≤ esa.size ∧ h'.DictOf knd d (merged kvs (more.take i)) ∧ h'.get? a = some oa ∧ Heap.SameBut d s.heap h') _ ?_ ?_ _ _
      ⟨s.heap, 0, rfl, rfl, Nat.zero_le _, hd, hoa, Heap.SameBut.refl _ _⟩
    · rintro x rest b s' ⟨h', i, rfl, hr, hi, hd', hoa', hs'⟩
      have lt : i < esa.size := by
        rcases Nat.lt_or_ge i esa.size with h | h
        · exact h
        · rw [List.drop_eq_nil_of_le (by rw [List.length_range]; exact h)] at hr
          cases hr
      rw [List.drop_eq_getElem_cons (by rw [List.length_range]; exact lt), List.getElem_range] at hr
      injection hr with e1 e2
      subst e1 e2
      refine wpAny_bind (wpAny_dictEntries hoa' hda ?_)
      rw [Array.getElem?_eq_getElem lt]
      obtain ⟨⟨k, v⟩, hkv⟩ : ∃ kv, more[x]? = some kv := ⟨more[x]'(by rw [len]; exact lt), List.getElem?_eq_getElem _⟩
      obtain ⟨k1, v1⟩ := hpa.get? (e := esa[x]) (by simp [lt]) hkv
      obtain ⟨k2, k3, hh⟩ := hka esa[x] (Array.getElem_mem lt)
      obtain rfl : k2 = k := knd.inj _ _ _ k3 k1
      dsimp only
      rw [if_neg Bool.false_ne_true, hh, v1]
      have room : (merged kvs (more.take x)).length ≤ sizeLine := by
        have few := merged_length_le kvs (more.take x)
        rw [List.length_take] at few
        omega
      refine wpAny_bind (wpAny_holding (put_pair k1 hd' room fun h2 hd2 hs2 => ?_))
      have hoa2 : h2.get? a = some oa := (hs2.2 a (Ne.symm ne)).trans hoa'
      refine wpAny_bind (wpAny_dictEpoch hoa2 hda ?_)
      rw [if_neg (by simp)]
      exact wpAny_pure ⟨h2, x + 1, rfl, rfl, lt, by rw [merged_take_succ kvs more x (k2, v) hkv]; exact hd2, hoa2, hs'.trans hs2⟩
    · rintro b s' ⟨h', i, rfl, hr, hi, hd', hoa', hs'⟩
      have e : i = esa.size := by
        rcases Nat.lt_or_ge i esa.size with h | h
        · rw [List.drop_eq_getElem_cons (by rw [List.length_range]; exact h)] at hr
          cases hr
        · omega
      rw [e, ← len, List.take_length] at hd'
      exact wpAny_pure (then_ h' hd' hs')
  refine wpAny_bind (wpAny_dictEntries hod hdd ?_)
  split
  · refine wpAny_bind (wpAny_dictEntries hoa hda (wpAny_bind ?_))
    have quiet : (forIn esa PUnit.unit fun e (_ : PUnit) => (match e.key with
        | Value.ref _ => do
          let l ← specialOf e.key (Str.ofString "__eq__")
          if (l != some (Value.builtin "object.__eq__")) = true then
              if (Array.filter (fun x => x.hash == e.hash) esa).size > 1 then do
                (unsupported "dict.merge-into-an-empty-dict:keys-of-equal-hash" : Sem PUnit)
                pure (ForInStep.yield PUnit.unit)
              else pure (ForInStep.yield PUnit.unit)
            else pure (ForInStep.yield PUnit.unit)
        | _ => pure (ForInStep.yield PUnit.unit) : Sem (ForInStep PUnit))) = pure PUnit.unit := by
      rw [← Array.forIn_toList]
      refine forIn_yield_id _ fun e he c => ?_
      obtain ⟨k, hk, _⟩ := hka e (Array.mem_toList_iff.mp he)
      have bv := knd.byValue k _ hk
      cases q : e.key <;> first | rfl | (rw [q] at bv; exact absurd bv Bool.false_ne_true)
    exact wpAny_of_eq quiet loop
  · exact loop
end
/-- {**a, **b}: the new dict stands while the two are read -/
def tStar2 (ta tb : TE) : TE := fun σ H Q => ∀ p, H p = none → ta σ (upd H p (.dK [])) fun x H1 => ∃ a kvs, x = .ref a ∧ a ≠ p ∧ H1 p = some (.dK []) ∧ Rd H1 a (.dK kvs) ∧
  tb σ (upd H1 p (.dK (mergeK [] kvs))) fun y H2 => ∃ b more m1, y = .ref b ∧ b ≠ p ∧ H2 p = some (.dK m1) ∧ Rd H2 b (.dK more) ∧ m1.length + more.length ≤ sizeLine ∧ Q (.ref p) (upd H2 p (.dK (mergeK m1 more)))
section
variable {X : Cx}
theorem merge_V {pins : List (Addr × Obj)} {σ : L2.St} {H : Hp} {s : Shared} {p a : Addr} {m1 more : List (Key × V)} {A : Around} {E : Value → Shared → Prop} {Q : Unit → Shared → Prop} (I : Inv X pins σ H s) (hp : H p = some (.dK m1)) (ha : Rd H a (.dK more)) (ne : a ≠ p) (sz : m1.length + more.length ≤ sizeLine)
    (then_ : ∀ s', Inv X pins σ (upd H p (.dK (mergeK m1 more))) s' → Q () s') : wpAny (model X.prog X.w) A (mergeMapping p (.ref a) false) Q E s := by
  obtain ⟨z1, lo1, vs, r1, d1⟩ := dk_of I.hok hp
  obtain ⟨z2, lo2, us, r2, d2⟩ := dk_rd I.hok ha
  have l1 : m1.length = vs.length := r1.length
  have l2 : more.length = us.length := r2.length
  refine merge_in (Ne.symm ne) lo2 d1 d2 (by omega) fun h' hd hs => then_ _ ?_
  have len : (mergeK m1 more).length ≤ sizeLine := Nat.le_trans (length_mergeK more m1) sz
  have he : ∃ q, h'.get? p = some q := let ⟨q, _, _, hq, _⟩ := hd; ⟨q, hq⟩
  exact d_write (t' := s.toks) I (by rw [hp]; exact True.intro) hs he (dk_new len lo1 (KV.merge r2 r1) hd)
theorem pe_star2 {e1 e2 : Expr} {ta tb : TE} {pos : Pos} (h1 : PE X e1 ta) (h2 : PE X e2 tb) : PE X (.Dict [none, none] [e1, e2] pos) (tStar2 ta tb) := by
  refine ⟨fun pins s σ H Q I q => ?_⟩
  have q1 := q s.heap.objs.size (I.hok.fresh (Nat.le_refl _))
  have I1 := I.laid (t' := s.toks) (fun _ _ z => Heap.get?_push_of_some _ z) (Nat.le_refl _) (dk_empty (P := X.prog) (w := X.w) (H := upd H s.heap.objs.size (.dK [])) s.heap I.big)
  rw [arm_eval_Dict]
  refine wpAny_bind (wpAny_standAt ?_)
  show wpAny _ _ (dictDisplay [(none, do let x ← eval e1 X.env; standAt pos; pure x), (none, do let x ← eval e2 X.env; standAt pos; pure x)]) _ _ _
  unfold dictDisplay
  dsimp only
  refine wpAny_bind ?_
  rw [List.forIn_cons]
  refine wpAny_bind ?_
  dsimp only
  rw [if_pos (by rfl)]
  refine wpAny_bind (wpAny_pure ?_)
  dsimp only
  refine wpAny_bind (wpAny_alloc ?_)
  refine wpAny_bind (wpAny_holding (wpAny_bind (thn (h1.run pins _ σ _ _ I1 q1) ?_)))
  rintro v s1 ⟨_, H1, I2, rx, a, kvs, rfl, ne, hp, ha, q2⟩
  cases rx
  refine wpAny_bind (wpAny_standAt (wpAny_pure ?_))
  have l1 : kvs.length ≤ sizeLine := (dk_rd I2.hok ha).1
  refine wpAny_bind (wpAny_onRaise (wpAny_tryCatch (wpAny_onRaise (wpAny_holding (merge_V I2 hp ha ne (by rw [List.length_nil, Nat.zero_add]; exact l1) fun s2 I3 => ?_)))))
  refine wpAny_pure ?_
  dsimp only
  rw [List.forIn_cons]
  refine wpAny_bind ?_
  dsimp only
  rw [if_pos (by rfl)]
  refine wpAny_bind (wpAny_pure ?_)
  dsimp only
  refine wpAny_bind (wpAny_pure ?_)
  refine wpAny_bind (wpAny_holding (wpAny_bind (thn (h2.run pins _ σ _ _ I3 q2) ?_)))
  rintro v s3 ⟨_, H2, I4, rx, b, more, m1, rfl, ne2, hp2, hb, sz, q3⟩
  cases rx
  refine wpAny_bind (wpAny_standAt (wpAny_pure ?_))
  refine wpAny_bind (wpAny_onRaise (wpAny_tryCatch (wpAny_onRaise (wpAny_holding (merge_V I4 hp2 hb ne2 sz fun s4 I5 => ?_)))))
  refine wpAny_pure ?_
  dsimp only
  rw [List.forIn_nil]
  refine wpAny_pure ?_
  dsimp only
  rw [if_pos (by rfl)]
  refine wpAny_bind (wpAny_pure ?_)
  exact wpAny_pure ⟨.ref s.heap.objs.size, _, I5, rfl, q3⟩
end
end RM

set_option Elab.async false
set_option linter.all false
set_option maxRecDepth 100000
set_option maxHeartbeats 2000000
/-! dict(zip(a tuple, a tuple)) -/
namespace RM
open PySem PySem.Spec PyProof.Rows L2
section
variable {prog : Program} {w : World} {A : Around} {E : Value → Shared → Prop} {s : Shared} {z TI TO T i1 i2 : Addr} {fp1 fp2 : List Addr} {n1 n2 i : Nat} {P1 P2 : Nat → Value → Prop} {St1 St2 : Nat → Heap → Prop} {f : Bool} {oT : Obj}
/-- one more pair, while the pair before is still out -/
theorem held_more {Q : Value → Shared → Prop} (S : ZipSep2 z TI TO i1 i2 fp1 fp2) (D1 : Draws prog w A i1 fp1 n1 P1 St1) (D2 : Draws prog w A i2 fp2 n2 P2 St2) (hz : IsZipHeld s.heap z TI TO T f) (hT : s.heap.get? T = some oT) (hTI : IsTupOf2 s.heap TI (.ref i1) (.ref i2))
    (st1 : St1 i s.heap) (st2 : St2 i s.heap) (l1 : i < n1) (l2 : i < n2)
    (q : ∀ x y h' tk, P1 i x → P2 i y → IsZipHeld h' z TI TO T true → St1 (i + 1) h' → St2 (i + 1) h' → IsTupOf2 h' s.heap.objs.size x y → (∀ c o, c ≠ z → c ≠ i1 → c ≠ i2 → s.heap.get? c = some o → h'.get? c = some o) → Q (.ref s.heap.objs.size) { s with heap := h', toks := tk }) :
    wpAny (model prog w) A (Builtin.«zip.__next__» ⟨[.ref z], []⟩) (fun fin s' => ∃ v, fin = .done (.ret v) ∧ Q v s') E s := by
  show wpAny _ _ (field (.ref z) 2 >>= _) _ _ _
  refine wpAny_bind (wpAny_field hz rfl (x := .bool false) rfl ?_)
  show wpAny _ _ (field (.ref z) 3 >>= _) _ _ _
  refine wpAny_bind (wpAny_field hz rfl (x := .ref TI) rfl (wpAny_bind (wpAny_seqItems hTI rfl ?_)))
  show wpAny _ _ (Builtin.SmallTypes.ownedTupleIsFree (.ref z) >>= _) _ _ _
  refine wpAny_bind (wpAny_tupleHeld_zip hz hT fun h1 z1 k1 => ?_)
  rw [if_neg Bool.false_ne_true]
  refine wpAny_bind ?_
  rw [← Array.forIn_toList]
  simp only [List.forIn_cons, List.forIn_nil]
  refine wpAny_bind (wpAny_bind (wpAny_holding ?_))
  show wpAny _ _ (Builtin.SmallTypes.nextOf (.ref i1) >>= _) _ _ _
  refine wpAny_bind (D1.item i { s with heap := h1 } _ _ l1 (D1.over st1 k1 S.zf1) fun x h2 t2 px m1 k2 => wpAny_pure (wpAny_pure ?_))
  refine wpAny_bind (wpAny_bind (wpAny_holding ?_))
  show wpAny _ _ (Builtin.SmallTypes.nextOf (.ref i2) >>= _) _ _ _
  refine wpAny_bind (D2.item i { s with heap := h2, toks := t2 } _ _ l2 (D2.over (D2.over st2 k1 S.zf2) k2 S.sep1_2) fun y h3 t3 py m2 k3 => wpAny_pure (wpAny_pure (wpAny_pure ?_)))
  show wpAny _ _ (newTuple [x, y] >>= _) _ _ _
  refine wpAny_bind (wpAny_newTuple (wpAny_pure ⟨_, rfl, ?_⟩))
  have k2' : Heap.SameBut i1 h1 h2 := k2
  have k3' : Heap.SameBut i2 h2 h3 := k3
  have sz : h3.objs.size = s.heap.objs.size := by rw [k3'.1, k2'.1, k1.1]
  have z3 : IsZipHeld h3 z TI TO T true := k3'.extBut _ _ S.zi2 (k2'.extBut _ _ S.zi1 z1)
  have ks : ∀ c o, c ≠ z → c ≠ i1 → c ≠ i2 → s.heap.get? c = some o → h3.get? c = some o := fun c o c1 c2 c3 e => k3'.extBut _ _ c3 (k2'.extBut _ _ c2 (k1.extBut _ _ c1 e))
  have m1' : St1 (i + 1) h3 := D1.over m1 k3' S.sep2_1
  have up : ∀ c o, h3.get? c = some o → (h3.push { cls := .type "tuple", data := .seq #[x, y] }).get? c = some o := fun c o e => Heap.get?_push_of_some _ e
  have tp : IsTupOf2 (h3.push { cls := .type "tuple", data := .seq #[x, y] }) h3.objs.size x y := Heap.get?_push_size _ rfl
  show Q (.ref h3.objs.size) _
  rw [sz] at tp ⊢
  exact q x y _ t3 px py (up _ _ z3) (D1.frame _ _ _ m1' fun b _ o e => up b o e) (D2.frame _ _ _ m2 fun b _ o e => up b o e) tp fun c o c1 c2 c3 e => up c o (ks c o c1 c2 c3 e)
theorem held_end {Q : Fin → Shared → Prop} (S : ZipSep2 z TI TO i1 i2 fp1 fp2) (D1 : Draws prog w A i1 fp1 n1 P1 St1) (D2 : Draws prog w A i2 fp2 n2 P2 St2) (hz : IsZipHeld s.heap z TI TO T f) (hT : s.heap.get? T = some oT) (hTI : IsTupOf2 s.heap TI (.ref i1) (.ref i2))
    (st1 : St1 i s.heap) (st2 : St2 i s.heap) (l1 : i ≤ n1) (l2 : i ≤ n2) (e : i = n1 ∨ i = n2)
    (q : ∀ h' tk x, (∀ c o, c ≠ z → c ≠ i1 → c ≠ i2 → s.heap.get? c = some o → h'.get? c = some o) → (∃ o, h'.get? x = some o ∧ o.cls = .type "StopIteration") → E (.ref x) { s with heap := h', toks := tk }) :
    wpAny (model prog w) A (Builtin.«zip.__next__» ⟨[.ref z], []⟩) Q E s := by
  show wpAny _ _ (field (.ref z) 2 >>= _) _ _ _
  refine wpAny_bind (wpAny_field hz rfl (x := .bool false) rfl ?_)
  show wpAny _ _ (field (.ref z) 3 >>= _) _ _ _
  refine wpAny_bind (wpAny_field hz rfl (x := .ref TI) rfl (wpAny_bind (wpAny_seqItems hTI rfl ?_)))
  show wpAny _ _ (Builtin.SmallTypes.ownedTupleIsFree (.ref z) >>= _) _ _ _
  refine wpAny_bind (wpAny_tupleHeld_zip hz hT fun h1 z1 k1 => ?_)
  rw [if_neg Bool.false_ne_true]
  refine wpAny_bind ?_
  rw [← Array.forIn_toList]
  simp only [List.forIn_cons, List.forIn_nil]
  refine wpAny_bind (wpAny_bind (wpAny_holding ?_))
  show wpAny _ _ (Builtin.SmallTypes.nextOf (.ref i1) >>= _) _ _ _
  by_cases at1 : i = n1
  · refine wpAny_bind (D1.done { s with heap := h1 } _ _ (at1 ▸ D1.over st1 k1 S.zf1) fun h2 x k2 hx => ?_)
    exact q h2 _ x (fun c o c1 c2 _ e => k2 _ _ c2 (k1.extBut _ _ c1 e)) hx
  · have at2 : i = n2 := e.resolve_left at1
    refine wpAny_bind (D1.item i { s with heap := h1 } _ _ (by omega) (D1.over st1 k1 S.zf1) fun x h2 t2 px m1 k2 => wpAny_pure (wpAny_pure ?_))
    refine wpAny_bind (wpAny_bind (wpAny_holding ?_))
    show wpAny _ _ (Builtin.SmallTypes.nextOf (.ref i2) >>= _) _ _ _
    refine wpAny_bind (D2.done { s with heap := h2, toks := t2 } _ _ (at2 ▸ D2.over (D2.over st2 k1 S.zf2) k2 S.sep1_2) fun h3 x k3 hx => ?_)
    exact q h3 _ x (fun c o c1 c2 c3 e => k3 _ _ c3 (k2.extBut _ _ c2 (k1.extBut _ _ c1 e))) hx
end
section
variable {prog : Program} {w : World} {A : Around} {E : Value → Shared → Prop} {s : Shared} {z TI TO T i1 i2 : Addr} {fp1 fp2 : List Addr} {n1 n2 i : Nat} {P1 P2 : Nat → Value → Prop} {St1 St2 : Nat → Heap → Prop} {f : Bool} {oT : Obj}
theorem next_held {Q : Option Value → Shared → Prop} (S : ZipSep2 z TI TO i1 i2 fp1 fp2) (D1 : Draws prog w A.in1 i1 fp1 n1 P1 St1) (D2 : Draws prog w A.in1 i2 fp2 n2 P2 St2) (hz : IsZipHeld s.heap z TI TO T f) (hT : s.heap.get? T = some oT) (hTI : IsTupOf2 s.heap TI (.ref i1) (.ref i2))
    (st1 : St1 i s.heap) (st2 : St2 i s.heap) (l1 : i < n1) (l2 : i < n2)
    (q : ∀ x y h' tk, P1 i x → P2 i y → IsZipHeld h' z TI TO T true → St1 (i + 1) h' → St2 (i + 1) h' → IsTupOf2 h' s.heap.objs.size x y → (∀ c o, c ≠ z → c ≠ i1 → c ≠ i2 → s.heap.get? c = some o → h'.get? c = some o) → Q (some (.ref s.heap.objs.size)) { s with heap := h', toks := tk }) :
    wpAny (model prog w) A (pyNext (.ref z)) Q E s := by
  have ty : s.TypeIs (.ref z) "zip" := ⟨_, hz, rfl⟩
  unfold pyNext
  exact wpAny_bind (wpAny_attempt (wpAny_callSpecial?_slot (name := Str.ofString "__next__") ty PySem.F.slot_zip_next (wpAny_call_entry PySem.F.slot_zip_next ty PySem.F.entry_zip_next
    (held_more S D1 D2 hz hT hTI st1 st2 l1 l2 fun x y h' tk a b c d e g k => wpAny_pure (q x y h' tk a b c d e g k)) (PySem.F.args_zip_next_1 _))))
theorem next_held_end {Q : Option Value → Shared → Prop} (S : ZipSep2 z TI TO i1 i2 fp1 fp2) (D1 : Draws prog w A.in1 i1 fp1 n1 P1 St1) (D2 : Draws prog w A.in1 i2 fp2 n2 P2 St2) (hz : IsZipHeld s.heap z TI TO T f) (hT : s.heap.get? T = some oT) (hTI : IsTupOf2 s.heap TI (.ref i1) (.ref i2))
    (st1 : St1 i s.heap) (st2 : St2 i s.heap) (l1 : i ≤ n1) (l2 : i ≤ n2) (e : i = n1 ∨ i = n2)
    (q : ∀ h' tk, (∀ c o, c ≠ z → c ≠ i1 → c ≠ i2 → s.heap.get? c = some o → h'.get? c = some o) → Q none { s with heap := h', toks := tk }) : wpAny (model prog w) A (pyNext (.ref z)) Q E s := by
  have ty : s.TypeIs (.ref z) "zip" := ⟨_, hz, rfl⟩
  unfold pyNext
  refine wpAny_bind (wpAny_attempt (wpAny_callSpecial?_slot (name := Str.ofString "__next__") ty PySem.F.slot_zip_next (wpAny_call_entry PySem.F.slot_zip_next ty PySem.F.entry_zip_next
    (held_end S D1 D2 hz hT hTI st1 st2 l1 l2 e fun h' tk x k hx => ?_) (PySem.F.args_zip_next_1 _))))
  obtain ⟨o, ho, hc⟩ := hx
  exact wpAny_bind (wpAny_isInstance (T := "StopIteration") (b := true) ⟨o, ho, hc⟩ isSubtype_stop (wpAny_pure (q _ _ k)))
theorem out4 {c p q r t : Addr} (h : c ∉ [p, q, r, t]) : c ≠ p ∧ c ≠ q ∧ c ≠ r ∧ c ≠ t := by simpa only [List.mem_cons, List.not_mem_nil, or_false, not_or] using h
/-- zip(t1, t2) as dict's argument -/
theorem pairs_zipT {t1 t2 : Addr} (S : ZipSep2 z TI TO i1 i2 [i1, t1] [i2, t2]) (ne1 : t1 ≠ i1) (ne2 : t2 ≠ i2) (xs ys : Array Value) (hl : xs.size = ys.size) :
    PairArg prog w "zip" z [z, TI, TO, i1, i2, t1, t2] [z, TO, i1, i2] xs.size (fun i k v => xs[i]? = some k ∧ ys[i]? = some v)
      (fun h => IsZip h z TI TO .none ∧ IsTupOf2 h TI (.ref i1) (.ref i2) ∧ (∃ a b, IsTupOf2 h TO a b) ∧ (h.IsTupleIter i1 t1 0 ∧ h.IsTuple t1 xs) ∧ (h.IsTupleIter i2 t2 0 ∧ h.IsTuple t2 ys)) where
  type := fun _ z => ⟨_, z.1, rfl⟩
  notDict := by decide
  keep := fun h h' ok hk => by
    obtain ⟨a, b, ⟨x, y, c⟩, ⟨d, e⟩, g, j⟩ := ok
    exact ⟨hk _ _ a, hk _ _ b, ⟨x, y, hk _ _ c⟩, ⟨d.at fun o e => hk _ o e, e.at fun o e => hk _ o e⟩, g.at fun o e => hk _ o e, j.at fun o e => hk _ o e⟩
  there := fun h ok b hb => by
    obtain ⟨a, b1, ⟨x, y, c⟩, ⟨⟨o1, d, _⟩, ⟨o2, e, _⟩⟩, ⟨o3, g, _⟩, ⟨o4, j, _⟩⟩ := ok
    simp only [List.mem_cons, List.not_mem_nil, or_false] at hb
    rcases hb with rfl | rfl | rfl | rfl | rfl | rfl | rfl
    all_goals first | exact ⟨_, a⟩ | exact ⟨_, b1⟩ | exact ⟨_, c⟩ | exact ⟨_, d⟩ | exact ⟨_, g⟩ | exact ⟨_, e⟩ | exact ⟨_, j⟩
  sub := fun b hb => by
    simp only [List.mem_cons, List.not_mem_nil, or_false] at hb ⊢
    rcases hb with rfl | rfl | rfl | rfl <;> simp
  noKeys := fun _ _ _ _ calm ok k => getAttrOr_miss_zip (hA := calm) ok.1 rfl rfl rfl zip_no_keys (by decide +kernel) (h := k)
  iter := fun A s d Q E hA ok hd off h => by
    obtain ⟨hz, hTI, ⟨a, b, hTO⟩, m1, m2⟩ := ok
    simp only [List.mem_cons, List.not_mem_nil, or_false, not_or] at off
    obtain ⟨dz, dTI, dTO, di1, di2, dt1, dt2⟩ := off
    have D1 : Draws prog w A.in1 i1 [i1, t1] xs.size (fun i v => xs[i]? = some v) (fun i h => h.IsTupleIter i1 t1 i ∧ h.IsTuple t1 xs) := Draws.tuple (A := A.in1) hA i1 t1 ne1 xs
    have D2 : Draws prog w A.in1 i2 [i2, t2] ys.size (fun i v => ys[i]? = some v) (fun i h => h.IsTupleIter i2 t2 i ∧ h.IsTuple t2 ys) := Draws.tuple (A := A.in1) hA i2 t2 ne2 ys
    refine wpAny_pyIter_zip hz (h z [z, TO, i1, i2] (fun i h => IsTupOf2 h TI (.ref i1) (.ref i2) ∧ (h.IsTupleIter i1 t1 i ∧ h.IsTuple t1 xs) ∧ (h.IsTupleIter i2 t2 i ∧ h.IsTuple t2 ys) ∧
      ((IsZip h z TI TO .none ∧ ∃ a b, IsTupOf2 h TO a b) ∨ ∃ T f oT, IsZipHeld h z TI TO T f ∧ h.get? T = some oT ∧ T ≠ z ∧ T ≠ i1 ∧ T ≠ i2 ∧ T ≠ d)) s.heap s.toks ?_ ⟨hTI, m1, m2, .inl ⟨hz, a, b, hTO⟩⟩ (fun _ _ e => e) fun b hb => .inl hb)
    exact {
      off := fun hm => by
        simp only [List.mem_cons, List.not_mem_nil, or_false] at hm
        rcases hm with e | e | e | e
        · exact dz e
        · exact dTO e
        · exact di1 e
        · exact di2 e
      frame := fun i h1 h2 st hk => by
        obtain ⟨p, ⟨u1, u2⟩, ⟨v1, v2⟩, q⟩ := st
        refine ⟨hk _ _ (Ne.symm dTI) p, ⟨u1.at fun o e => hk _ o (Ne.symm di1) e, u2.at fun o e => hk _ o (Ne.symm dt1) e⟩, ⟨v1.at fun o e => hk _ o (Ne.symm di2) e, v2.at fun o e => hk _ o (Ne.symm dt2) e⟩, ?_⟩
        rcases q with ⟨q, a, b, r⟩ | ⟨T, f, oT, q, hT, r1, r2, r3, r4⟩
        · exact .inl ⟨hk _ _ (Ne.symm dz) q, a, b, hk _ _ (Ne.symm dTO) r⟩
        · exact .inr ⟨T, f, oT, hk _ _ (Ne.symm dz) q, hk _ _ r4 hT, r1, r2, r3, r4⟩
      item := fun i s1 Q1 E1 hi st hds hQ => by
        obtain ⟨p, u, v, q⟩ := st
        have lt : ∀ {c o}, s1.heap.get? c = some o → s1.heap.objs.size ≠ c := fun e => Nat.ne_of_gt (Heap.lt_size e)
        have n1 : s1.heap.objs.size ≠ i1 := let ⟨_, e, _⟩ := u.1; lt e
        have n2 : s1.heap.objs.size ≠ i2 := let ⟨_, e, _⟩ := v.1; lt e
        rcases q with ⟨q, a, b, r⟩ | ⟨T, f, oT, q, hT, r1, r2, r3, r4⟩
        · refine wpAny_pyNext_zipD2_item S D1 D2 q p r u v hi (hl ▸ hi) fun x y h' tk px py a1 a2 a3 a4 a5 a6 hk => ?_
          exact hQ s1.heap.objs.size x y h' tk ⟨px, py⟩ (.inl ⟨_, a5, rfl, _, rfl⟩) ⟨hk _ _ S.TIz S.TITO S.TIi1 S.TIi2 p, a3, a4, .inr ⟨s1.heap.objs.size, false, _, a1, a5, lt q, n1, n2, Nat.ne_of_gt hds⟩⟩
            fun c o hc e => let ⟨n1, n2, n3, n4⟩ := out4 hc; hk c o n1 n2 n3 n4 e
        · refine next_held S D1 D2 q hT p u v hi (hl ▸ hi) fun x y h' tk px py a1 a3 a4 a5 hk => ?_
          exact hQ s1.heap.objs.size x y h' tk ⟨px, py⟩ (.inl ⟨_, a5, rfl, _, rfl⟩) ⟨hk _ _ S.TIz S.TIi1 S.TIi2 p, a3, a4, .inr ⟨T, true, oT, a1, hk _ _ r1 r2 r3 hT, r1, r2, r3, r4⟩⟩
            fun c o hc e => let ⟨n1, _, n3, n4⟩ := out4 hc; hk c o n1 n3 n4 e
      done := fun s1 Q1 E1 st hQ => by
        obtain ⟨p, u, v, q⟩ := st
        rcases q with ⟨q, a, b, r⟩ | ⟨T, f, oT, q, hT, r1, r2, r3, r4⟩
        · exact wpAny_pyNext_zipD2_end S D1 D2 q p r u v (Nat.le_refl _) (Nat.le_of_eq hl) (.inl rfl) fun h' tk hk => hQ h' tk fun c o hc e => let ⟨n1, n2, n3, n4⟩ := out4 hc; hk c o n1 n2 n3 n4 e
        · exact next_held_end S D1 D2 q hT p u v (Nat.le_refl _) (Nat.le_of_eq hl) (.inl rfl) fun h' tk hk => hQ h' tk fun c o hc e => let ⟨n1, _, n3, n4⟩ := out4 hc; hk c o n1 n3 n4 e }
end
/-- dict(zip(a, b)): keys ks, values vs -/
def tDictZip (K : PySem.W.Frag) (t : TA) : TE := fun σ H Q => t σ H fun us H1 => ∃ (a b : Addr) (ks : List Key) (vs : List V), us = [.ref a, .ref b] ∧ SqT K H1 a (ks.map kV) ∧ SqT K H1 b vs ∧ ks.length = vs.length ∧
  ∀ p, H1 p = none → Q (.ref p) (upd H1 p (.dK (mergeK [] (ks.zip vs))))
theorem kv_zip : ∀ {ks : List Key} {vs : List V} {us : List Value}, Vals vs us → KV (ks.zip vs) (ks.zip us)
  | [], _, _, _ => .nil
  | _ :: _, _, _, .nil => .nil
  | k :: ks, _, _, .cons h t => .cons ⟨rfl, h⟩ (kv_zip t)
theorem pe_dictZip {X : Cx} {e e2 : Expr} {t : TA} {p p2 pos pos2 : Pos} (hcalm : X.calm = true) (hg : Gl X "dict") (hm : X.mg "dict" = none) (hg2 : Gl X "zip") (hm2 : X.mg "zip" = none) (ha : PA X [e, e2] t)
    (tree : backTo pos (starEach [Expr.Call (.Name "zip" p2) [e, e2] [] pos2] X.env) = [(false, eval (Expr.Call (.Name "zip" p2) [e, e2] [] pos2) X.env)] := by rfl)
    (two : starEach [e, e2] X.env = (false, eval e X.env) :: starEach [e2] X.env := by rfl) (plain : (backTo pos2 (starEach [e2] X.env)).any (·.1) = false := by rfl) :
    PE X (.Call (.Name "dict" p) [.Call (.Name "zip" p2) [e, e2] [] pos2] [] pos) (tDictZip X.K t) := by
  refine ⟨fun pins s σ H Q I h => ?_⟩
  refine wpAny_Call_Name_kw (ld_blt I hg hm boot_dict (PyProof.Rows.callWith_type1 ?_ rfl rfl))
  rw [tree]
  refine Calls.spliced_cons (wpAny_Call_Name_kw (ld_blt I hg2 hm2 PyProof.Rows.boot_zip (PyProof.Rows.callWith_type1 (thn (ha.run pos2 pins s σ H _ I h) ?_) two plain)))
  rintro us s1 ⟨_, H1, I1, rel, a, b, ks, vs, rfl, sa, sb, l, q⟩
  obtain ⟨_, _, rfl, ra, rb⟩ := vals2 rel
  cases ra
  cases rb
  obtain ⟨xs, rx, at1, z1⟩ := I1.tuple sa
  obtain ⟨ys, ry, at2, z2⟩ := I1.tuple sb
  have lx := rx.length
  have ly := ry.length
  rw [List.length_map] at lx
  have lt1 : a < s1.heap.objs.size := at1.lt
  have lt2 : b < s1.heap.objs.size := at2.lt
  have sep := zip_sep2 (N := s1.heap.objs.size) (fp1 := [a]) (fp2 := [b]) (fun c hc => (List.mem_singleton.mp hc).symm ▸ lt1) (fun c hc => (List.mem_singleton.mp hc).symm ▸ lt2)
  refine zip_begins2 (begins_tuple a xs.toArray) (begins_tuple b ys.toArray) at1 at2 fun hp zi ti to_ i1 i2 sz old => Calls.spliced_nil ?_
  have p1 : hp.IsTuple a xs.toArray := let ⟨o, ho, r⟩ := at1; ⟨o, old _ _ ho, r⟩
  have p2 : hp.IsTuple b ys.toArray := let ⟨o, ho, r⟩ := at2; ⟨o, old _ _ ho, r⟩
  refine PySem.call_dict_pairs (s := { s1 with heap := hp }) (knd := mixKind X.prog X.w) (kvs := ks.zip ys) (pairs_zipT (prog := X.prog) (w := X.w) sep (Nat.ne_of_lt lt1) (Nat.ne_of_lt (Nat.lt_succ_of_lt lt2)) xs.toArray ys.toArray (by simp only [List.size_toArray]; omega))
    (I.ok.hd hcalm) ⟨zi, ti, ⟨_, _, to_⟩, ⟨⟨_, i1, rfl, rfl⟩, p1⟩, ⟨_, i2, rfl, rfl⟩, p2⟩ ⟨?_, fun i key v hr => ?_⟩ ?_ fun h' tk dd hk => ?_
  · rw [List.length_zip]
    simp only [List.size_toArray]
    omega
  · obtain ⟨e1, e2⟩ := hr
    have e1' : xs[i]? = some key := by simpa using e1
    have e2' : ys[i]? = some v := by simpa using e2
    have hi := (List.getElem?_eq_some_iff.mp e1').1
    obtain ⟨u, hu, ru⟩ := Vals.get (i := i) (x := kV ks[i]) rx (by rw [List.getElem?_map, List.getElem?_eq_getElem (by omega)]; rfl)
    rw [e1'] at hu
    cases hu
    exact ⟨ks[i], List.getElem?_zip_eq_some.mpr ⟨List.getElem?_eq_getElem _, e2'⟩, kV_is ru⟩
  · simp only [List.size_toArray]
    rw [← lx]
    have := z1
    rw [List.length_map] at this
    exact this
  · have old' : ∀ c o, s1.heap.get? c = some o → h'.get? c = some o := fun c o hc => by
      have lc := Heap.lt_size hc
      refine hk c o (fun hm => ?_) (old c o hc)
      simp only [List.mem_cons, List.not_mem_nil, or_false] at hm
      rcases hm with e | e | e | e <;> (rw [e] at lc; exact absurd lc (Nat.not_lt.mpr (by first | exact Nat.le_refl _ | exact Nat.le_add_right _ _)))
    have lm : (s1.heap.objs.size + 5 == sysModules) = false := beq_eq_false_iff_ne.mpr (Nat.ne_of_gt (Nat.lt_of_lt_of_le I1.big (Nat.le_add_right _ _)))
    have sz' : hp.objs.size = s1.heap.objs.size + 5 := sz
    have hlen : (mergeK [] (ks.zip vs)).length ≤ sizeLine := by
      refine Nat.le_trans (length_mergeK _ []) ?_
      rw [List.length_nil, Nat.zero_add, List.length_zip, l, Nat.min_self]
      exact z2
    show EP X pins σ Q (.ref hp.objs.size) _
    have dd' : h'.DictOf (mixKind X.prog X.w) hp.objs.size (merged [] (ks.zip ys)) := dd
    rw [sz'] at dd' ⊢
    exact ⟨.ref (s1.heap.objs.size + 5), _, I1.laid (t' := tk) old' (Nat.le_add_right _ _) (show ObjOk X.prog X.w _ _ _ (.dK (mergeK [] (ks.zip vs))) from ⟨hlen, lm, merged [] (ks.zip ys), KV.merge (kv_zip ry) .nil, dd'⟩), rfl, q _ (I1.hok.fresh (Nat.le_add_right _ _))⟩
end RM

set_option Elab.async false
set_option linter.all false
set_option maxRecDepth 100000
set_option maxHeartbeats 2000000
namespace RM
open PySem PySem.Spec PyProof.Rows L2
section
variable {P : Program} {w : World} {K : PySem.W.Frag} {mg : Str → Option Value} {base : Heap}
/-! ### an own exception with one field -/
/-- its __init__: the field holds the argument -/
def spExo (C : Addr) (f : Str) : Sp := fun vs H Q _ => match vs with
  | [x, v] => ∃ a, x = .ref a ∧ H a = some (exo a C none) ∧ ∀ dx, H dx = none → dx ≠ a → Q .non (upd (upd H dx (exd dx [(f, v)])) a (exo a C (some dx)))
  | _ => False
theorem exo_0 {qual x : Str} {C : Addr} {k : Nat} {sp : Sp} {st : Stmt} {f : Addr} {N ps : List Str} (F : ∃ fd, FunD K "__init__" qual (defArgs st) (defBody st) (defScope st) [] [] f fd) (T : OexC K C) (M : Meth K C "__init__" f) (hm : mg x = some (.ref C)) (S : FnScope N ps (defScope st))
    (hb : ∀ (kV doc pm : Value) (an : Option Addr) (cdv ct : Value) (us : List Value), us.length = ps.length → bindArgs (PySem.W.fnOf "__init__" qual (defArgs st) (defBody st) (defScope st) .none kV doc pm an cdv ct) ⟨us, []⟩ = pure (ps.zip us))
    (len : ∀ vs H Q E, sp vs H Q E → vs.length = ps.length) (h : Body0 P w K mg base N qual st f k sp) : Exo P w K mg base (k + 1) x C sp :=
  let ⟨fd, F⟩ := F
  ⟨f, fd, ps, T, M, fn_0 F S len h, hm, F.bindsN hb⟩
/-- raise C(v): what is to be shown -/
theorem raise1 {C : Addr} {f : Str} {v : V} {H : Hp} {Q : XK} (q : ∀ d H', H d = none → Same H H' → H' d = some (.xd [(f, v)]) → Q (.ref C) (some d) H') :
    [v].length ≤ 1000 ∧ ∀ a, H a = none → spExo C f (.ref a :: ([v] ++ [])) (upd H a (exo a C none))
      (fun u H2 => u = .non ∧ ∃ (d : Addr) (fs : List (Str × V)), H2 a = some (exo a C (some d)) ∧ H2 d = some (exd d fs) ∧ H d = none ∧ Q (.ref C) (some d) (upd (L2.del H2 a) d (.xd fs))) (fun _ _ _ => False) := by
  refine ⟨by show 1 ≤ 1000; omega, fun a ha => ⟨a, rfl, upd_same, fun dx h1 h2 => ⟨rfl, dx, [(f, v)], upd_same, ?_, ?_, ?_⟩⟩⟩
  · rw [upd_ne h2, upd_same]
  · rw [upd_ne h2] at h1; exact h1
  · have hd : H dx = none := by rw [upd_ne h2] at h1; exact h1
    refine q dx _ hd (fun b o hb => ?_) upd_same
    have n1 : b ≠ a := ne_of_none hb ha
    have n2 : b ≠ dx := ne_of_none hb hd
    rw [upd_ne n2, L2.del_ne n1, upd_ne n1, upd_ne n2, upd_ne n1]
    exact hb
end
/-- all but a is as it was -/
def Off (a : Addr) (H H' : Hp) : Prop := ∀ b u, b ≠ a → H b = some u → H' b = some u
/-! ### what is raised while a thing is locked: it is unlocked on the way out -/
def WUnl (X : Cx) (W : WX) : WX := fun cls dx σ H => ∃ d od u, H d = some (.frz od u) ∧ (∀ o' u', X.H_0 d ≠ some (.frz o' u')) ∧ W cls dx σ (upd H d u)
theorem takes_unl {X : Cx} {W : WX} (tk : Takes X W) : Takes X (WUnl X W) := by
  rintro u s' ⟨a, B, sI, pins, σ, H, cls, dx, e, I, nb, up, sky, na, os, ag, d, od, v, hd, hn, w⟩
  refine tk u s' ⟨a, B, sI, pins, σ, upd H d v, cls, dx, e, I.unlock hd hn, nb, up, sky, ?_, os, ag, w⟩
  rw [upd_ne fun z => by rw [z, hd] at na; cases na]
  exact na
theorem raise1U {X : Cx} {W : WX} {σ : L2.St} {C : Addr} {f : Str} {v : V} {H : Hp} (q : ∀ d H', H d = none → Same H H' → H' d = some (.xd [(f, v)]) → WUnl X W (.ref C) (some d) σ H') :
    [v].length ≤ 1000 ∧ ∀ a, H a = none → spExo C f (.ref a :: ([v] ++ [])) (upd H a (exo a C none))
      (fun u H2 => u = .non ∧ ∃ (d : Addr) (fs : List (Str × V)), H2 a = some (exo a C (some d)) ∧ H2 d = some (exd d fs) ∧ H d = none ∧ WUnl X W (.ref C) (some d) σ (upd (L2.del H2 a) d (.xd fs))) (fun _ _ _ => False) := raise1 (Q := fun cls d H' => WUnl X W cls d σ H') q
end RM

set_option Elab.async false
set_option linter.all false
set_option maxRecDepth 100000
set_option maxHeartbeats 2000000
namespace RM
open PySem PySem.Spec PyProof.Rows L2
/-- the first word of g that m lacks -/
def lack (m g : WM) : Option Str := (wKeys g).find? fun k => decide (k ∉ wKeys m)
theorem lack_none {m g : WM} (h : lack m g = none) : ∀ k ∈ wKeys g, k ∈ wKeys m := fun k hk => by
  have := List.find?_eq_none.mp h k hk
  simpa using this
theorem paired_at {α β : Type} {F : α → β → Prop} : ∀ {l : List α} {m : List β}, Paired F l m → ∀ {i : Nat} {x : α}, l[i]? = some x → ∃ y, m[i]? = some y ∧ F x y
  | _, _, .nil, i, x, h => by simp at h
  | _, _, .cons h t, 0, x, e => by
    obtain rfl : _ = x := Option.some.inj e
    exact ⟨_, rfl, h⟩
  | _, _, .cons h t, i + 1, x, e => paired_at t (i := i) (by simpa using e)
theorem lack_keys {m m' g : WM} (h : wKeys m = wKeys m') : lack m g = lack m' g := by unfold lack; rw [h]
theorem first_none {m : WM} {cs : List WM} (h : ∀ (i : Nat) (g : WM), cs[i]? = some g → lack m g = none) : cs.findSome? (lack m) = none := List.findSome?_eq_none_iff.mpr fun g hg => by
  obtain ⟨i, hi⟩ := List.getElem?_of_mem hg
  exact h i g hi
theorem first_some {m : WM} {cs : List WM} {i : Nat} {g : WM} {k : Str} (hi : cs[i]? = some g) (hk : lack m g = some k) (h : ∀ (j : Nat) (g' : WM), j < i → cs[j]? = some g' → lack m g' = none) : cs.findSome? (lack m) = some k := by
  have il := (List.getElem?_eq_some_iff.mp hi).1
  have e : cs = cs.take i ++ g :: cs.drop (i + 1) := by
    have := List.take_append_drop (i + 1) cs
    rw [List.take_add_one, hi] at this
    rw [List.append_assoc] at this
    exact this.symm
  rw [e, List.findSome?_append, List.findSome?_eq_none_iff.mpr, List.findSome?_cons, hk]
  · rfl
  · intro g' hg'
    obtain ⟨j, hj⟩ := List.getElem?_of_mem hg'
    have jl := (List.getElem?_eq_some_iff.mp hj).1
    rw [List.length_take] at jl
    rw [List.getElem?_take, if_pos (by omega)] at hj
    exact h j g' (by omega) hj
theorem paired_take {α β : Type} {F : α → β → Prop} : ∀ {l : List α} {m : List β}, Paired F l m → ∀ k, Paired F (l.take k) (m.take k)
  | _, _, .nil, k => by rw [List.take_nil, List.take_nil]; exact .nil
  | _, _, .cons h t, 0 => .nil
  | _, _, .cons h t, k + 1 => .cons h (paired_take t k)
theorem paired_drop {α β : Type} {F : α → β → Prop} : ∀ {l : List α} {m : List β}, Paired F l m → ∀ k, Paired F (l.drop k) (m.drop k)
  | _, _, .nil, k => by rw [List.drop_nil, List.drop_nil]; exact .nil
  | _, _, .cons h t, 0 => .cons h t
  | _, _, .cons h t, k + 1 => paired_drop t k
theorem paired_app {α β : Type} {F : α → β → Prop} : ∀ {l l2 : List α} {m m2 : List β}, Paired F l m → Paired F l2 m2 → Paired F (l ++ l2) (m ++ m2)
  | _, _, _, _, .nil, h => h
  | _, _, _, _, .cons h t, g => .cons h (paired_app t g)
theorem paired_mem {α β : Type} {F : α → β → Prop} : ∀ {l : List α} {m : List β}, Paired F l m → ∀ y ∈ m, ∃ x ∈ l, F x y
  | _, _, .cons (a := x) h t, y, hy => by
    rcases List.mem_cons.mp hy with rfl | hy
    · exact ⟨x, List.mem_cons_self, h⟩
    · obtain ⟨z, hz, hf⟩ := paired_mem t y hy
      exact ⟨z, List.mem_cons_of_mem _ hz, hf⟩
theorem paired_mem' {α β : Type} {F : α → β → Prop} : ∀ {l : List α} {m : List β}, Paired F l m → ∀ x ∈ l, ∃ y ∈ m, F x y
  | _, _, .cons (b := y) h t, x, hx => by
    rcases List.mem_cons.mp hx with rfl | hx
    · exact ⟨y, List.mem_cons_self, h⟩
    · obtain ⟨z, hz, hf⟩ := paired_mem' t x hx
      exact ⟨z, List.mem_cons_of_mem _ hz, hf⟩
end RM

set_option Elab.async false
set_option linter.all false
set_option maxRecDepth 100000
set_option maxHeartbeats 2000000
namespace RM
open PySem PySem.Spec PyProof.Rows L2
section
variable {P : Program} {w : World} {K : PySem.W.Frag} {mg : Str → Option Value} {base : Heap}
def SurAt (K : PySem.W.Frag) (H : Hp) (a : Addr) (m : WM) : Prop := MapAt H (He.ga K "Surroundings") "now" a m ∧ 1 ≤ m.length ∧ m.length ≤ 4
theorem SurAt.keep {H H' : Hp} {a : Addr} {m : WM} (e : Same H H') (h : SurAt K H a m) : SurAt K H' a m := ⟨h.1.keep e, h.2⟩
theorem SurAt.ok {H : Hp} {a : Addr} {m : WM} (h : SurAt K H a m) : okM m ∧ sortedS (wKeys m) = true := let ⟨⟨_, _, _, _, a, b⟩, _⟩ := h; ⟨a, b⟩
/-! ### NoKey -/
theorem sc_NoKey_init : FnScope ["self", "key"] ["self", "key"] (defScope s_NoKey_init) := ⟨rfl, rfl, rfl, by decide +kernel, rfl, by decide +kernel, by decide +kernel⟩
theorem c_NoKey_init (T : Top w K mg) : Exo P w K mg base 1 "NoKey" (He.ga K "NoKey") (spExo (He.ga K "NoKey") "key") := by
  refine exo_0 (f_NoKey_init T) (oexB_ok (oex_NoKey T)) (me_NoKey_init T) (g_NoKey T) sc_NoKey_init (fun _ _ _ _ _ _ us hl => match us, hl with | [_, _], _ => rfl) (fun vs H Q E h => match vs, h with | [_, _], _ => rfl) (fun cdv A outer s H vs Q E hr h => ?_)
  match vs, h with
  | [x, v], h =>
  obtain ⟨a, rfl, ha, q⟩ := h
  refine ⟨_, (pss_one (ps_ost (pv 0) (pv 1))), ?_⟩
  exact ⟨_, rfl, _, rfl, a, _, rfl, oexB_ok (oex_NoKey T), na_NoKey_key T, .inl ⟨ha, fun dx h1 h2 => q dx h1 h2⟩⟩
/-! ### keys_of -/
def spKeysOf (K : PySem.W.Frag) : Sp := fun vs H Q _ => match vs with
  | [x] => ∃ a m, x = .ref a ∧ SurAt K H a m ∧ ∀ p H', Same H H' → H p = none → H' p = some (.tup (m.map fun q => V.str q.1)) → Q (.ref p) H'
  | _ => False
theorem sc_Surroundings_keys_of : FnScope ["self"] ["self"] (defScope s_Surroundings_keys_of) := ⟨rfl, rfl, rfl, by decide +kernel, rfl, by decide +kernel, by decide +kernel⟩
theorem c_Surroundings_keys_of (T : Top w K mg) : Met P w K mg base CX0 1 (He.ga K "Surroundings") "keys_of" (spKeysOf K) := by
  refine met_0 (f_Surroundings_keys_of T) (k_Surroundings T) (me_Surroundings_keys_of T) sc_Surroundings_keys_of (fun _ _ _ _ _ _ us hl => match us, hl with | [_], _ => rfl) (fun vs H Q E h => match vs, h with | [_], _ => rfl) (fun cdv A outer s H vs Q E hr h => ?_)
  match vs, h with
  | [x], h =>
  obtain ⟨a, m, rfl, ⟨⟨dx, p, ha, hp, hg, hs⟩, hl⟩, q⟩ := h
  refine ⟨_, (pss_one (ps_ret (pct (z_tuple T) (call_tupleD rfl) boot_tuple (pa_cons (pe_fld (pv 0) rfl) pa_nil)))), ?_⟩
  refine ⟨_, rfl, a, _, dx, _, _, rfl, ha, k_Surroundings T, na_Surroundings_now T, rfl, p, mK m, rfl, .of hp, fun t ht => q t _ (smNew1 ht _) ht ?_⟩
  rw [upd_same]
  unfold mK
  rw [List.map_map]
  rfl
/-! ### changed -/
def spChanged (K : PySem.W.Frag) : Sp := fun vs H Q E => match vs with
  | [x, y] => ∃ b c m g, x = .ref b ∧ y = .ref c ∧ H b = some (.dK (mK m)) ∧ okM m ∧ m.length ≤ 4 ∧ ChgAt K H c g ∧
    (lack m g = none → ∀ p H', Same H H' → H p = none → H' p = some (.dK (mK (wOver m g))) → Q (.ref p) H') ∧
    (∀ k, lack m g = some k → ∀ d H', Same H H' → H' d = some (.xd [("key", .str k)]) → E (.ref (He.ga K "NoKey")) (some d) H')
  | _ => False
theorem sc_changed : FnScope ["values", "change", "key"] ["values", "change"] (defScope s_changed) := ⟨rfl, rfl, rfl, by decide +kernel, rfl, by decide +kernel, by decide +kernel⟩
theorem c_changed (T : Top w K mg) : Cal P w K mg base (L2.CX P w) 3 "changed" (spChanged K) := by
  refine cal_X (f_changed T) (g_changed T) sc_changed (fun _ _ _ _ _ _ us hl => match us, hl with | [_, _], _ => rfl) (fun vs H Q E h => match vs, h with | [_, _], _ => rfl) (fun cdv A outer s H vs Q E hr h => ?_)
  match vs, h with
  | [x, y], h =>
  obtain ⟨b, c, m, g, rfl, rfl, hb, okm, lm, ⟨⟨dx, p, hc, hp, okg, sg⟩, lg⟩, q, qE⟩ := h
  refine ⟨_, (pss_cons (ps_lock (ps_for (passes_of rfl) rfl (pi_keys (pe_fld (pv 1) rfl)) (pg_name (i := 2) sc_changed.nd rfl (Or.inl rfl))
      (pss_one (ps_if (pt_cmp (pc_dnotin (hu_of hr) (pv 2) (pv 0)))
      (pss_one (ps_raiseX (takes_unl (takes_of rfl rfl rfl rfl)) (c_NoKey_init T) hr (pa_cons (pv 2) pa_nil)))
      pss_nil))))
    (pss_one (ps_ret (pe_star2 (pv 0) (pe_fld (pv 1) rfl))))), ?_⟩
  have cp : c ≠ p := fun z => by rw [z, hp] at hc; cases hc
  refine ⟨p, .dK (mK g), hp, trivial, fun od => ?_⟩
  have hcL : (upd H p (.frz od (.dK (mK g)))) c = some (.ins (He.ga K "Change") dx [("given", .ref p)]) := by rw [upd_ne cp]; exact hc
  have lgK : (mK g).length = g.length := List.length_map ..
  refine ⟨_, rfl, c, _, dx, _, _, rfl, hcL, k_Change T, na_Change_given T, rfl, p, od, rfl, .inl ⟨mK g, upd_same, for_it walk_keys (fun i σ H' => H' = upd H p (.frz od (.dK (mK g))) ∧ (∀ k ∈ wKeys (g.take i), k ∈ wKeys m) ∧ ∃ v, σ = [some (.ref b), some (.ref c), v])
    ⟨rfl, fun k hk => by simp [wKeys] at hk, _, rfl⟩ (fun i σ H' _ h => by rw [h.1]; exact upd_same) ?_ ?_⟩⟩
  · rintro i x σ H1 H2 hi ⟨rfl, hk, v, rfl⟩ ⟨rfl, k, v2, hkv, rfl⟩
    obtain ⟨z, hz, rfl, rfl⟩ := mK_get hkv
    have tk : wKeys (g.take (i + 1)) = wKeys (g.take i) ++ [z.1] := by
      unfold wKeys
      rw [List.take_add_one, hz, List.map_append]
      rfl
    refine ⟨_, rfl, _, rfl, b, _, rfl, .inl ⟨mK m, .inr z.1, rd_lock hb hp, rfl, rfl⟩, _, rfl, ?_⟩
    rw [valV_get]
    by_cases hm : z.1 ∈ wKeys m
    · refine ifF (by
        cases e : wGet m z.1 with
        | none => exact absurd hm (wGet_none.mp e)
        | some n => rfl) ?_
      refine ⟨rfl, fun k hk' => ?_, _, rfl⟩
      rw [tk] at hk'
      rcases List.mem_append.mp hk' with h | h
      · exact hk k h
      · rw [List.mem_singleton.mp h]
        exact hm
    · refine ifT (by rw [wGet_none.mpr hm]; rfl) ?_
      refine ⟨_, rfl, ?_⟩
      refine raise1U fun d H' nd e hd => ?_
      have np : d ≠ p := fun z => by rw [z, upd_same] at nd; cases nd
      refine ⟨p, od, .dK (mK g), e _ _ upd_same, fun o' u' z => ?_, qE z.1 ?_ d _ (same_back hp e) (by rw [upd_ne np]; exact hd)⟩
      · have z' : H p = some (.frz o' u') := z
        rw [hp] at z'
        cases z'
      · unfold lack
        have il := (List.getElem?_eq_some_iff.mp hz).1
        have e2 : wKeys g = wKeys (g.take i) ++ z.1 :: wKeys (g.drop (i + 1)) := by
          have := List.take_append_drop (i + 1) g
          conv => lhs; rw [← this]
          unfold wKeys at tk ⊢
          rw [List.map_append, tk, List.append_assoc]
          rfl
        rw [e2, List.find?_append, List.find?_eq_none.mpr (fun k hk' => by simpa using hk k hk'), List.find?_cons_of_pos (by simpa using hm)]
        rfl
  · rintro σ H1 ⟨rfl, hk, v, rfl⟩
    refine ⟨upd_same, ?_⟩
    rw [upd_back hp]
    rw [lgK, List.take_length] at hk
    have nl : lack m g = none := List.find?_eq_none.mpr fun k hk' => by simpa using hk k hk'
    refine fun r nr => ?_
    have rb : b ≠ r := ne_of_none hb nr
    have rc : c ≠ r := ne_of_none hc nr
    have rp : p ≠ r := ne_of_none hp nr
    refine ⟨_, rfl, b, mK m, rfl, rb, upd_same, .of (by rw [upd_ne rb]; exact hb), ?_⟩
    refine ⟨_, rfl, c, _, dx, _, _, rfl, by rw [upd_ne rc, upd_ne rc]; exact hc, k_Change T, na_Change_given T, rfl, ?_⟩
    have e1 : mergeK [] (mK m) = mK m := by
      have := mergeK_w [] m
      rw [wOver_nil okm.2] at this
      exact this
    refine ⟨p, mK g, mK m, rfl, rp, by rw [upd_same, e1], .of (by rw [upd_ne rp, upd_ne rp]; exact hp), ?_, ?_⟩
    · rw [lgK]
      show (m.map _).length + _ ≤ _
      rw [List.length_map]
      exact Nat.le_of_lt (small1000 (by omega))
    · rw [mergeK_w]
      refine q nl r _ (fun a u ha => ?_) nr upd_same
      have := ne_of_none ha nr
      rw [upd_ne this, upd_ne this, upd_ne this]
      exact ha
/-! ### Surroundings + Change -/
theorem sorted_over {m g : WM} (s : sortedS (wKeys m) = true) (h : ∀ k ∈ wKeys g, k ∈ wKeys m) : sortedS (wKeys (wOver m g)) = true := by rw [wKeys_over h]; exact s
theorem len_keys {m g : WM} (h : wKeys m = wKeys g) : m.length = g.length := by
  have := congrArg List.length h
  unfold wKeys at this
  rwa [List.length_map, List.length_map] at this
def spAddS (K : PySem.W.Frag) : Sp := fun vs H Q E => match vs with
  | [x, y] => ∃ a c m g, x = .ref a ∧ y = .ref c ∧ SurAt K H a m ∧ ChgAt K H c g ∧
    (lack m g = none → ∀ p H', Same H H' → H p = none → SurAt K H' p (wOver m g) → Q (.ref p) H') ∧
    (∀ k, lack m g = some k → ∀ d H', Same H H' → H' d = some (.xd [("key", .str k)]) → E (.ref (He.ga K "NoKey")) (some d) H')
  | _ => False
theorem sc_Surroundings_add : FnScope ["self", "change"] ["self", "change"] (defScope s_Surroundings_add) := ⟨rfl, rfl, rfl, by decide +kernel, rfl, by decide +kernel, by decide +kernel⟩
theorem o_Surroundings_add (T : Top w K mg) : OwnX P w K mg base 6 (He.ga K "Surroundings") "__add__" (spAddS K) := by
  refine own_X (f_Surroundings_add T) (spc_Surroundings_add T) sc_Surroundings_add (fun _ _ _ _ _ _ us hl => match us, hl with | [_, _], _ => rfl) (fun vs H Q E h => match vs, h with | [_, _], _ => rfl) (fun cdv A outer s H vs Q E hr h => ?_)
  match vs, h with
  | [x, y], h =>
  obtain ⟨a, c, m, g, rfl, rfl, sa, sc, q, qE⟩ := h
  obtain ⟨⟨dx, p, ha, hp, okm, sm⟩, l1, l4⟩ := id sa
  obtain ⟨⟨dy, p2, hc, hp2, okg, sg⟩, lg⟩ := id sc
  refine ⟨_, (pss_cons (ps_if (pt_not (pt_val (pcb (z_isinstance T) call_isi boot_isinstance (pa_cons (pv 1) (pa_cons (pglR (g_Change T)) pa_nil)))))
      (pss_one ps_never)
      pss_nil)
    (pss_one (ps_ret (pmk (c_Surroundings_init T) hr (pa_cons (pcX (takes_of rfl rfl rfl rfl) (c_changed T) hr (pa_cons (pe_fld (pv 0) rfl) (pa_cons (pv 1) pa_nil))) pa_nil))))), ?_⟩
  refine ⟨_, rfl, _, _, _, _, true, rfl, .own _, .base (insB_ty (ins_Change T) (k_Change T) hc), kitC_ok (kit_Change_Change T), ?_⟩
  refine ⟨_, rfl, ifF rfl ?_⟩
  refine ⟨_, rfl, a, _, dx, _, _, rfl, ha, k_Surroundings T, na_Surroundings_now T, rfl, _, rfl, p, c, m, g, rfl, rfl, hp, okm, l4, sc, fun nl r H1 e1 nr hr1 => ?_, qE⟩
  intro x dx2 hx hdx hne
  have kk := wKeys_over (lack_none nl)
  have ll := len_keys kk
  have mI := mk_in (C := He.ga K "Surroundings") hx hdx hne
  refine ⟨x, dx2, r, wOver m g, rfl, rfl, upd_same, mI _ _ hr1, okM_over okm okg.1, by rw [ll]; exact l1, by rw [ll]; exact l4, fun H' m2 off mp pm => ⟨rfl, ?_⟩⟩
  have e2 : m2 = wOver m g := by
    obtain ⟨_, _, _, _, _, s2⟩ := id mp
    exact sort_one pm (nodup_over okm.2 g) (sorted_over sm (lack_none nl)) s2
  subst e2
  refine q nl x H' (e1.trans (mk_sm hx hdx off)) (e1.free hx) ⟨mp, by rw [ll]; exact l1, by rw [ll]; exact l4⟩
end
end RM

set_option Elab.async false
set_option linter.all false
set_option maxRecDepth 100000
set_option maxHeartbeats 2000000
namespace RM
open PySem PySem.Spec PyProof.Rows L2
theorem wGet_some_iff {m : WM} {k : Str} : ((wGet m k).map V.int).isSome = decide (k ∈ wKeys m) := by
  rw [Bool.eq_iff_iff, decide_eq_true_iff]
  cases e : wGet m k with
  | none => simp [wGet_none.mp e]
  | some n => simp; exact List.mem_map.mpr ⟨(k, n), wGet_some e, rfl⟩
section
variable {P : Program} {w : World} {K : PySem.W.Frag} {mg : Str → Option Value} {base : Heap}
/-! ### in -/
def spInS (K : PySem.W.Frag) : Sp := fun vs H Q _ => match vs with
  | [x, y] => ∃ a m k, x = .ref a ∧ y = .str k ∧ SurAt K H a m ∧ Q (.bl (decide (k ∈ wKeys m))) H
  | _ => False
theorem sc_Surroundings_contains : FnScope ["self", "key"] ["self", "key"] (defScope s_Surroundings_contains) := ⟨rfl, rfl, rfl, by decide +kernel, rfl, by decide +kernel, by decide +kernel⟩
theorem o_Surroundings_contains (T : Top w K mg) : OwnC P w K mg base CX0 1 (He.ga K "Surroundings") "__contains__" (spInS K) := by
  refine own_C0 (f_Surroundings_contains T) (spc_Surroundings_contains T) sc_Surroundings_contains (fun _ _ _ _ _ _ us hl => match us, hl with | [_, _], _ => rfl) (fun vs H Q E h => match vs, h with | [_, _], _ => rfl) (fun cdv A outer s H vs Q E hr h => ?_)
  match vs, h with
  | [x, y], h =>
  obtain ⟨a, m, k, rfl, rfl, ⟨⟨dx, p, ha, hp, okm, sm⟩, l1, l4⟩, q⟩ := h
  refine ⟨_, (pss_one (ps_ret (pe_cmp (pc_din (hu_of hr) (pv 1) (pe_fld (pv 0) rfl))))), ?_⟩
  refine ⟨_, rfl, _, rfl, a, _, dx, _, _, rfl, ha, k_Surroundings T, na_Surroundings_now T, rfl, p, _, rfl, .inl ⟨mK m, .inr k, .of hp, rfl, rfl⟩, ?_⟩
  rw [valV_get, wGet_some_iff]
  exact q
/-! ### [] -/
def spGetS (K : PySem.W.Frag) : Sp := fun vs H Q E => match vs with
  | [x, y] => ∃ a m k, x = .ref a ∧ y = .str k ∧ SurAt K H a m ∧ (∀ n, wGet m k = some n → Q (.int n) H) ∧ (k ∉ wKeys m → ∀ d H', Same H H' → H' d = some (.xd [("key", .str k)]) → E (.ref (He.ga K "NoKey")) (some d) H')
  | _ => False
theorem sc_Surroundings_getitem : FnScope ["self", "key"] ["self", "key"] (defScope s_Surroundings_getitem) := ⟨rfl, rfl, rfl, by decide +kernel, rfl, by decide +kernel, by decide +kernel⟩
theorem o_Surroundings_getitem (T : Top w K mg) : OwnC P w K mg base (L2.CX P w) 3 (He.ga K "Surroundings") "__getitem__" (spGetS K) := by
  refine own_CX (f_Surroundings_getitem T) (spc_Surroundings_getitem T) sc_Surroundings_getitem (fun _ _ _ _ _ _ us hl => match us, hl with | [_, _], _ => rfl) (fun vs H Q E h => match vs, h with | [_, _], _ => rfl) (fun cdv A outer s H vs Q E hr h => ?_)
  match vs, h with
  | [x, y], h =>
  obtain ⟨a, m, k, rfl, rfl, ⟨⟨dx, p, ha, hp, okm, sm⟩, l1, l4⟩, q, qE⟩ := h
  refine ⟨_, (pss_cons (ps_if (pt_cmp (pc_dnotin (hu_of hr) (pv 1) (pe_fld (pv 0) rfl)))
      (pss_one (ps_raiseX (takes_of rfl rfl rfl rfl) (c_NoKey_init T) hr (pa_cons (pv 1) pa_nil)))
      pss_nil)
    (pss_one (ps_ret (pe_dget (hu_of hr) (pe_fld (pv 0) rfl) (pv 1) (fun _ _ => rfl))))), ?_⟩
  refine ⟨_, rfl, _, rfl, a, _, dx, _, _, rfl, ha, k_Surroundings T, na_Surroundings_now T, rfl, p, _, rfl, .inl ⟨mK m, .inr k, .of hp, rfl, rfl⟩, _, rfl, ?_⟩
  rw [valV_get]
  cases e : wGet m k with
  | none =>
    refine ifT rfl ⟨_, rfl, ?_⟩
    exact raise1 fun d H' _ e' hd => qE (wGet_none.mp e) d H' e' hd
  | some n =>
    refine ifF rfl ?_
    exact ⟨_, rfl, a, _, dx, _, _, rfl, ha, k_Surroundings T, na_Surroundings_now T, rfl, _, rfl, p, .int n, rfl, .inl ⟨mK m, .inr k, .of hp, rfl, by rw [valV_get, e]; rfl⟩, q n e⟩
/-! ### += -/
def spIadS (K : PySem.W.Frag) : Sp := fun vs H Q E => match vs with
  | [x, y] => ∃ a c m g, x = .ref a ∧ y = .ref c ∧ SurAt K H a m ∧ ChgAt K H c g ∧
    (lack m g = none → ∀ dx p0 p H1, H a = some (.ins (He.ga K "Surroundings") dx [("now", .ref p0)]) → Same H H1 → H p = none → H1 p = some (.dK (mK (wOver m g))) → Q (.ref a) (upd H1 a (.ins (He.ga K "Surroundings") dx [("now", .ref p)]))) ∧
    (∀ k, lack m g = some k → ∀ d H', Same H H' → H' d = some (.xd [("key", .str k)]) → E (.ref (He.ga K "NoKey")) (some d) H')
  | _ => False
theorem sc_Surroundings_iadd : FnScope ["self", "change"] ["self", "change"] (defScope s_Surroundings_iadd) := ⟨rfl, rfl, rfl, by decide +kernel, rfl, by decide +kernel, by decide +kernel⟩
theorem o_Surroundings_iadd (T : Top w K mg) : OwnC P w K mg base (L2.CX P w) 4 (He.ga K "Surroundings") "__iadd__" (spIadS K) := by
  refine own_CX (f_Surroundings_iadd T) (spc_Surroundings_iadd T) sc_Surroundings_iadd (fun _ _ _ _ _ _ us hl => match us, hl with | [_, _], _ => rfl) (fun vs H Q E h => match vs, h with | [_, _], _ => rfl) (fun cdv A outer s H vs Q E hr h => ?_)
  match vs, h with
  | [x, y], h =>
  obtain ⟨a, c, m, g, rfl, rfl, sa, sc, q, qE⟩ := h
  obtain ⟨⟨dx, p, ha, hp, okm, sm⟩, l1, l4⟩ := id sa
  obtain ⟨⟨dy, p2, hc, hp2, okg, sg⟩, lg⟩ := id sc
  refine ⟨_, (pss_cons (ps_if (pt_not (pt_val (pcb (z_isinstance T) call_isi boot_isinstance (pa_cons (pv 1) (pa_cons (pglR (g_Change T)) pa_nil)))))
      (pss_one ps_never)
      pss_nil)
    (pss_cons (ps_fld (pv 0) (pcX (takes_of rfl rfl rfl rfl) (c_changed T) hr (pa_cons (pe_fld (pv 0) rfl) (pa_cons (pv 1) pa_nil))) rfl)
    (pss_one (ps_ret (pv 0))))), ?_⟩
  refine ⟨_, rfl, _, _, _, _, true, rfl, .own _, .base (insB_ty (ins_Change T) (k_Change T) hc), kitC_ok (kit_Change_Change T), ?_⟩
  refine ⟨_, rfl, ifF rfl ?_⟩
  refine ⟨_, rfl, a, _, dx, _, _, rfl, ha, k_Surroundings T, na_Surroundings_now T, rfl, _, rfl, p, c, m, g, rfl, rfl, hp, okm, l4, sc, fun nl r H1 e1 nr hr1 => ?_, qE⟩
  refine ⟨_, rfl, a, _, dx, _, rfl, e1 _ _ ha, k_Surroundings T, na_Surroundings_now T, (by show 1 < 1000; decide), ?_⟩
  exact ⟨_, rfl, q nl dx p r H1 ha e1 nr hr1⟩
end
end RM

set_option Elab.async false
set_option linter.all false
set_option maxRecDepth 100000
set_option maxHeartbeats 2000000
/-! a def that answers NotImplemented at once: `if not isinstance(other, C): return NotImplemented` -/
namespace RM
open PySem PySem.Spec PyProof.Rows L2
theorem boot_NotImplemented : bootBuiltins "NotImplemented" = some .notImplemented := by decide +kernel
/-- what stands behind such a call -/
abbrev NiQ (Q : Hp → Prop) (C : Value → Shared → Prop) : Result → Shared → Prop := fun r s' => r = .ok (.ret .notImplemented) ∧ C Value.none s'
structure FnNi (P : Program) (w : World) (K : PySem.W.Frag) (mg : Str → Option Value) (base : Heap) (k : Nat) (f : Addr) (fd : FuncData) (ps : List Str) (sp : List V → Hp → (Hp → Prop) → Prop) : Prop where
  len : ∀ vs H Q, sp vs H Q → vs.length = ps.length
  run : ∀ (A : Around) (outer : List Env) (s : Shared) (H : Hp) (args : Args) (us : List Value) (vs : List V) (Q : Hp → Prop), Room k A → Env0 P w K mg base A outer s H → BindsTo s fd args (ps.zip us) → Vals vs us → sp vs H Q →
    codeAny (model P w) A (.call (.ref f) args) (fun r s' => r = .ok (.ret .notImplemented) ∧ CE outer P w H s (fun _ H' => Q H') Value.none s') s
section
variable {X : Cx}
/-- the first row of such a def -/
theorem ni_row {c : Expr} {tc : TT} {rest : List Stmt} {p1 p2 p3 : Pos} (hc : PT X c tc) (hg : Gl X "NotImplemented") (hm : X.mg "NotImplemented" = none) {pins : List (Addr × Obj)} {s : Shared} {σ : L2.St} {H : Hp} {Q : Hp → Prop} (I : Inv X pins σ H s)
    (h : tc σ H fun b H1 => b = true ∧ Q H1) : wpAny (model X.prog X.w) X.A (execs (.If c [.Return (some (.Name "NotImplemented" p1)) p2] [] p3 :: rest) X.env) (fun fl s' => fl = .ret .notImplemented ∧ ∃ H', Inv X pins σ H' s' ∧ Q H') X.xe s := by
  refine wpAny_execs_cons (wpAny_If (thn (hc.run pins s σ H _ I h) fun d s1 ⟨H1, I1, e, q⟩ => ?_))
  subst e
  exact wpAny_execs_cons (wpAny_Return_some (ld_blt I1 hg hm boot_NotImplemented ⟨rfl, H1, I1, q⟩))
end
theorem fn_ni {P : Program} {w : World} {K : PySem.W.Frag} {mg : Str → Option Value} {base : Heap} {k : Nat} {f : Addr} {name qual : Str} {params : Arguments} {body : List Stmt} {scope : Scope} {N ps : List Str} {fd : FuncData} {sp : List V → Hp → (Hp → Prop) → Prop}
    (F : FunD K name qual params body scope [] [] f fd) (S : FnScope N ps scope) (len : ∀ vs H Q, sp vs H Q → vs.length = ps.length)
    (hbody : ∀ (cdv : Value) (A : Around) (outer : List Env) (s : Shared) (H : Hp) (vs : List V) (Q : Hp → Prop), Room k (A.deeper (envOfC qual scope s.heap.objs.size f cdv)) → sp vs H Q → ∀ s1, Inv (cxOf CX0 P w K mg base N qual scope f cdv A outer s H E0) [] (L2.start N vs) H s1 →
      wpAny (model P w) (cxOf CX0 P w K mg base N qual scope f cdv A outer s H E0).A (execs body (cxOf CX0 P w K mg base N qual scope f cdv A outer s H E0).env) (fun fl s' => fl = .ret .notImplemented ∧ ∃ H', Inv (cxOf CX0 P w K mg base N qual scope f cdv A outer s H E0) [] (L2.start N vs) H' s' ∧ Q H') (cxOf CX0 P w K mg base N qual scope f cdv A outer s H E0).xe s1) :
    FnNi P w K mg base (k + 1) f fd ps sp := by
  obtain ⟨oc, od, dV, kV, doc, pm, an, cdv, ct, osl, rfl, here, code, _, _⟩ := F.ex
  refine ⟨len, fun A outer s H args us vs Q hr e0 hb r hsp => ?_⟩
  have hl := len _ _ _ hsp
  have KX : K.In s.heap := e0.mod.kin.keeps (fun b o z => (e0.bs b o z).1)
  have free : s.heap.NoLimit := e0.mod.nolimit.keeps (fun b o z => (e0.bs b o z).1)
  have kinds : ∀ y ∈ ps.zip us, scope.names.lookup y.1 = some .local ∨ (scope.names.lookup y.1 = some .cell ∧ ((cellsFrom (s.heap.objs.size + 1) scope.names []).lookup y.1).isSome = true) := by
    rintro ⟨n, v⟩ hy
    exact (S.par n (List.of_mem_zip hy).1).imp id fun z => ⟨z, PySem.W.cellsFrom_some _ _ _ (Or.inl z)⟩
  apply codeAny_call_function hr.depth (KX _ _ here) rfl S.co S.gen rfl (PySem.W.codeRec_of KX code) (hb _ _ _ _ ?_)
  apply wpAny_newFunctionEnv_cells S.kind kinds
  intro env he s1 x
  subst he
  apply And.intro (free.keeps x.toInCall.keep)
  refine codeAny_func ?_
  have I : Inv (cxOf CX0 P w K mg base N qual scope f cdv A outer s H E0) [] (L2.start N vs) H s1 := inv_start S hr.hd e0 hl r x
  refine wpAny_mono (hbody cdv A outer s H vs Q (hr.deeper _) hsp s1 I) (fun fl s' hs => ?_) fun e s' hs => ?_
  · obtain ⟨rfl, H', J, q⟩ := hs
    exact ⟨rfl, V.non, H', J.os, J.bare, J.base, J.hok, rfl, q⟩
  · exact wpAny_mono hs (fun _ _ h => h.elim) fun _ _ h => h.elim
end RM

set_option Elab.async false
set_option linter.all false
set_option maxRecDepth 100000
set_option maxHeartbeats 2000000
/-! x + y of two own classes, x's __add__ answers NotImplemented, y's __radd__ does it -/
namespace RM
open PySem PySem.Spec PyProof.Rows L2
section
open PySem.W
variable {K : Frag} {C f : Addr}
theorem binop_refl {prog : Program} {w : World} {A : Around} {E : Value → Shared → Prop} {s : Shared} {x y L D fD g : Addr} {h₀ : Heap} {m : Str → Option Value} {ox : Obj} {od : Option Obj} {rC rD : Option Value} {Q : Value → Shared → Prop}
    (F : Fr h₀ L s.heap m) (X₀ : K.In h₀) (I : InstAt s.heap x ox C od) (hb : Looks (model prog w) s.heap (typeOf (.ref y)) (.ref D)) (hne : D ≠ C) (hc : selfFirst K C = true) (hd : selfFirst K D = true) (hs : findIn K (.ref C) (PySem.dunder "add") = some (some (.ref f)))
    (hf : isFn K (.ref f) = true) (hsD : findIn K (.ref D) (PySem.dunder "add") = some (some (.ref fD))) (hrC : findIn K (.ref C) (dunderR "add") = some rC) (hrD : findIn K (.ref D) (dunderR "add") = some rD) (rC' : rC = none ∨ ∃ g, rC = some (.ref g)) (rD' : rD = none ∨ ∃ g, rD = some (.ref g))
    (hg : findIn K (.ref D) (dunderR "add") = some (some (.ref g))) (hgf : isFn K (.ref g) = true)
    (sub : subIn K (.ref D) (.ref C) = some false) (h : wpAny (model prog w) A (call (.ref f) [.ref x, .ref y]) (fun v s1 => v = .notImplemented ∧ K.In s1.heap ∧ Looks (model prog w) s1.heap (typeOf (.ref x)) (.ref C) ∧ (∃ oy od2, InstAt s1.heap y oy D od2) ∧
      wpAny (model prog w) A (call (.ref g) [.ref y, .ref x]) (PySem.W.CmpBack Q) E s1) E s) : wpAny (model prog w) A (binaryOp .Add (.ref x) (.ref y)) Q E s := by
  have X := X₀.keeps F.keep
  obtain ⟨cd, rest, hcd, hm⟩ := self_first hc
  obtain ⟨dd, rest2, hdd, hm2⟩ := self_first hd
  unfold binaryOp
  apply wpAny_holding; apply wpAny_bind
  unfold binaryOp1
  apply wpAny_bind
  refine I.type.here (wpAny_bind (hb.here (wpAny_bind ?_)))
  refine (fills_K X hcd hm hs).here ?_
  have nb : (Value.ref C == Value.ref D) = false := by simpa using fun e => hne e.symm
  simp only [nb, Bool.false_eq_true, if_false]
  refine wpAny_bind ((fills_K X hdd hm2 hsD).here ?_)
  simp only [if_true, Bool.and_self]
  refine wpAny_bind ((looks_subIn X sub).here ?_)
  simp only [Bool.false_eq_true, if_false, Bool.not_false, Bool.and_self, if_true]
  refine wpAny_bind ((slot_def X hs hrC rC').here ?_)
  simp only [if_true]
  refine wpAny_bind ((slot_def X hsD hrD rD').here ?_)
  simp only [if_false, Bool.not_true, Bool.false_eq_true]
  refine wpAny_bind (m := tryMethod (.ref x) _ (.ref y)) ?_
  unfold tryMethod
  refine wpAny_bind (special_fn X I hs (beq_iff_eq.mp hf) (wpAny_mono h (fun v s1 hv => ?_) fun _ _ e => e))
  obtain ⟨rfl, X1, lx, ⟨oy, od2, Iy⟩, back⟩ := hv
  refine wpAny_pure ?_
  refine wpAny_bind (lx.here (wpAny_bind (Iy.type.here ?_)))
  simp only [nb, Bool.false_eq_true, if_false]
  refine wpAny_bind (wpAny_bind (special_fn X1 Iy hg (beq_iff_eq.mp hgf) (wpAny_mono back (fun v s2 hv => ?_) fun _ _ e => e)))
  cases v <;> first | exact hv.elim | exact wpAny_pure (wpAny_bind (wpAny_rule (wpAny_pure (wpAny_pure hv))))
end
/-- a def's own special method that answers NotImplemented -/
def OwnNi (P : Program) (w : World) (K : PySem.W.Frag) (mg : Str → Option Value) (base : Heap) (k : Nat) (C : Addr) (m : Str) (sp : List V → Hp → (Hp → Prop) → Prop) : Prop :=
  ∃ (f : Addr) (fd : FuncData) (ps : List Str), FnNi P w K mg base k f fd ps sp ∧ PySem.W.findIn K (.ref C) m = some (some (.ref f)) ∧ PySem.W.isFn K (.ref f) = true ∧ Binds K fd ps []
section
variable {X : Cx} {k j : Nat}
/-- a call of such a def -/
theorem ask_ni {f : Addr} {fd : FuncData} {ps : List Str} {sp : List V → Hp → (Hp → Prop) → Prop} {pins : List (Addr × Obj)} {σ : L2.St} {H : Hp} {s : Shared} {vs : List V} {us : List Value} {Q : Hp → Prop} (F : FnNi X.prog X.w X.K X.mg X.base k f fd ps sp) (B : Binds X.K fd ps []) (hr : Room k X.A)
    (I : Inv X pins σ H s) (r : Vals vs us) (h : sp vs H Q) : wpAny (model X.prog X.w) X.A (call (.ref f) us) (fun v s' => v = .notImplemented ∧ ∃ H', Inv X pins σ H' s' ∧ Q H') X.xe s := by
  have len : us.length = ps.length := by rw [← r.length]; exact F.len _ _ _ h
  have given := B s us I.kIn (by rw [List.append_nil]; exact len)
  rw [List.append_nil] at given
  refine wpAny_call (codeAny_mono (F.run X.A X.stack s H ⟨us, []⟩ us vs Q hr I.env0 given r h) fun out s1 z => ?_)
  obtain ⟨rfl, z⟩ := z
  obtain ⟨v, H', I', rv, q⟩ := I.after z
  exact ⟨rfl, H', I', q⟩
/-- x + y: x's __add__ answers NotImplemented, y's __radd__ is asked -/
def rAddR (C D : Addr) (spn : List V → Hp → (Hp → Prop) → Prop) (sp : Sp) (E : XK) : R2 := fun x y H Q => ∃ a b dx dy fs gs, x = .ref a ∧ y = .ref b ∧ H a = some (.ins C dx fs) ∧ H b = some (.ins D dy gs) ∧ spn [x, y] H (fun H' => H' = H) ∧ sp [y, x] H Q E
theorem op_addR {x y : Str} {spn : List V → Hp → (Hp → Prop) → Prop} {sp : Sp} {E : XK} (two : twoB X.K x y = true) (n : OwnNi X.prog X.w X.K X.mg X.base k (He.ga X.K x) "__add__" spn) (c : OwnX X.prog X.w X.K X.mg X.base k (He.ga X.K y) "__radd__" sp) (hx : Passes (L2.CX X.prog X.w) X E) (hr : Room j X.A) (hk : k ≤ j := by omega) :
    OpR X (binaryOp .Add) (rAddR (He.ga X.K x) (He.ga X.K y) spn sp E) := by
  rintro pins s σ H _ _ v u Q I rx ry ⟨a, b, dx, dy, fs, gs, rfl, rfl, ha, hb, hn, hsp⟩
  obtain ⟨f, fd, ps, F, hs, hf, B⟩ := n
  obtain ⟨g, gd, qs, G, hgs, hgf, Bg⟩ := c
  obtain ⟨t1, two⟩ := He.ba two
  obtain ⟨t2, two⟩ := He.ba two
  obtain ⟨t3, two⟩ := He.ba two
  obtain ⟨t4, two⟩ := He.ba two
  obtain ⟨t5, two⟩ := He.ba two
  obtain ⟨t6, two⟩ := He.ba two
  obtain ⟨t7, t8⟩ := He.ba two
  obtain ⟨rC, hrC, kC⟩ := radd_of t7
  obtain ⟨rD, hrD, kD⟩ := radd_of t8
  cases rx
  cases ry
  obtain ⟨_, ia, _⟩ := ins_get I.hok ha
  obtain ⟨_, ib, _⟩ := ins_get I.hok hb
  obtain ⟨_, la, _⟩ := ia.look
  obtain ⟨_, lb, _⟩ := ib.look
  refine binop_refl I.fr.choose_spec I.ok.mod.kin la lb.type (of_decide_eq_true t3) t1 t2 hs hf (spcB_ok t5).1 hrC hrD kC kD hgs hgf (of_decide_eq_true t6) ?_
  refine thn (ask_ni (vs := [.ref a, .ref b]) F B (hr.mono hk) I (.cons rfl (.cons rfl .nil)) hn) fun r s1 z => ?_
  obtain ⟨rfl, H', I1, rfl⟩ := z
  obtain ⟨_, ia1, _⟩ := ins_get I1.hok ha
  obtain ⟨_, ib1, _⟩ := ins_get I1.hok hb
  obtain ⟨_, la1, _⟩ := ia1.look
  obtain ⟨_, lb1, _⟩ := ib1.look
  refine ⟨rfl, I1.kIn, la1.type, ⟨_, _, lb1⟩, ?_⟩
  refine thn (run_fn (vs := [.ref b, .ref a]) (dvs := []) (ds := []) G (hr.mono hk) Bg .nil hx I1 (.cons rfl (.cons rfl .nil)) hsp) fun r s2 z => ?_
  obtain ⟨z, H2, I2, rz, q⟩ := z
  have some := not_ni rz
  cases r <;> first | exact absurd rfl some | exact ⟨z, H2, I2, rz, q⟩
end
end RM

set_option Elab.async false
set_option linter.all false
set_option maxRecDepth 100000
set_option maxHeartbeats 2000000
/-! x[k] = v, x of an own class with __setitem__ -/
namespace RM
open PySem PySem.Spec PyProof.Rows L2
section
variable {X : Cx} {CX : CXT} {k j : Nat} {C : Addr} {sp : Sp} {E : XK}
def rSetO (C : Addr) (sp : Sp) (E : XK) : V → V → V → Hp → (Hp → Prop) → Prop := fun o i v H Q => ∃ a dx fs, o = .ref a ∧ H a = some (.ins C dx fs) ∧ sp [o, i, v] H (fun _ H' => Q H') E
theorem set_own (hq : PySem.W.noSeq X.K C = true) (c : OwnC X.prog X.w X.K X.mg X.base CX k C "__setitem__" sp) (hx : Passes CX X E) (hr : Room j X.A) (hk : k ≤ j := by omega) : PSet X (rSetO C sp E) := by
  rintro pins s σ H _ i v ov iv u Q I ro ri rv ⟨a, dx, fs, rfl, ha, h⟩
  obtain ⟨f, fd, ps, F, hs, hf, B, hn⟩ := c
  cases ro
  obtain ⟨_, ia, _⟩ := ins_get I.hok ha
  obtain ⟨_, la, _⟩ := ia.look
  have XK := I.kIn
  unfold setItem sequenceKey
  refine wpAny_holding (wpAny_bind (wpAny_bind (la.type.here ?_)))
  refine wpAny_bind ((PySem.W.anyM_none XK hq).here ?_)
  rw [if_pos (show (!false) = true from rfl)]
  refine wpAny_pure (wpAny_bind (PySem.W.special_fn XK la hs (beq_iff_eq.mp hf) (thn (run_fn (vs := [.ref a, i, v]) (dvs := []) (ds := []) F (hr.mono hk) B .nil hx I (.cons rfl (.cons ri (.cons rv .nil))) h) fun r s1 z => ?_)))
  obtain ⟨z, H1, I1, rz, q⟩ := z
  exact wpAny_pure ⟨H1, I1, q⟩
end
end RM

set_option Elab.async false
set_option linter.all false
set_option maxRecDepth 100000
set_option maxHeartbeats 2000000
/-! two tuples whose first items are different texts: == gives False, whatever stands behind -/
namespace RM
open PySem PySem.Spec PyProof.Rows L2
theorem tuple_eqFirst (la lb : Addr) (y1 y2 : Value) (r1 r2 : List Value) (n n2 : Nat) (dd dd2 : Option Addr) (sl sl2 : Array (Option Value)) {a c : Str} {ta tc : Tok} (e1 : y1 = .str a ta) (e2 : y2 = .str c tc) (ne : a ≠ c) :
    Meets (Builtin.«tuple.__eq__» ⟨[.ref la, .ref lb], []⟩)
      (fun A R s => s.heap.get? la = some { cls := .type "tuple", dict := dd, data := .seq (y1 :: r1).toArray n, slots := sl } ∧ s.heap.get? lb = some { cls := .type "tuple", dict := dd2, data := .seq (y2 :: r2).toArray n2, slots := sl2 } ∧
        R (.ok (.ret (Value.bool false))) s) :=
  .of_wp fun pr w A R s hh => by
    obtain ⟨hl, hb, hR⟩ := hh; obtain ⟨hp, g, d, tk, os⟩ := s
    have sub2 := AutoSeq1.sub_tuple_tuple
    wp_walk using AutoSeq1.wpAny_loadPart' hl, AutoSeq1.wpAny_loadPart' hb, wpAny_forIn_list _ (fun rest b s' => b.1 = none ∧ s' = ⟨hp, g, d, tk, os⟩ ∧ rest = ((y1 :: r1).toArray.toList.zip (y2 :: r2).toArray.toList)) _
    case turn =>
      rintro ⟨y, x⟩ rest b s' ⟨hb', rfl, hz⟩
      have hz : (y, x) :: rest = (y1, y2) :: (r1.zip r2) := by simpa using hz
      injection hz with hyx hrest
      injection hyx with hy hx
      rw [hy, hx, e1, e2]
      refine wpAny_bind (wpAny_eqBool_str ?_)
      rw [decide_eq_false ne]
      wp_walk
      exact ⟨_, rfl, hR⟩
    case fin =>
      rintro ⟨c1, c2⟩ s' ⟨_, rfl, hz⟩
      exfalso
      simp at hz
    all_goals exact ⟨rfl, rfl, rfl⟩
/-- x == y, tuples whose first items are different texts -/
def rEqF (K : PySem.W.Frag) : R2 := fun x y H Q => ∃ p q a c r1 r2, x = .ref p ∧ y = .ref q ∧ SqT K H p (.str a :: r1) ∧ SqT K H q (.str c :: r2) ∧ a ≠ c ∧ Q (.bl false) H
theorem op_eqF {X : Cx} (hu : X.A.units < cLine) : OpR X (compareOp .Eq) (rEqF X.K) := by
  rintro pins s σ H _ _ v u Q I rx ry ⟨p, q, a, c, r1, r2, rfl, rfl, hp, hq, ne, fin⟩
  cases rx
  cases ry
  obtain ⟨i1, v1, t1, _⟩ := I.tuple hp
  obtain ⟨i2, v2, t2, _⟩ := I.tuple hq
  cases v1 with
  | cons w1 w2 =>
  cases v2 with
  | cons z1 z2 =>
  obtain ⟨ta, rfl⟩ := w1
  obtain ⟨tc, rfl⟩ := z1
  have opn : ∀ {h : Heap} {a : Addr} {xs : Array Value}, IsTup h a xs → ∃ n dd sl, h.get? a = some { cls := .type "tuple", dict := dd, data := .seq xs n, slots := sl } := fun ⟨⟨c, d, dt, sl⟩, e, c1, n, t1⟩ => by
    cases c1
    cases t1
    exact ⟨n, _, _, e⟩
  obtain ⟨n1, d1, sl1, g1⟩ := opn t1
  obtain ⟨n2, d2, sl2, g2⟩ := opn t2
  show wpAny _ _ (richCompare .Eq (.ref p) (.ref q)) _ _ s
  exact richCompare_meets_room (op := .Eq) ⟨_, g1, rfl⟩ ⟨_, g2, rfl⟩ F.slot_tuple_eq F.entry_tuple_eq (F.args_tuple_eq_2 _ _) (tuple_eqFirst p q _ _ _ _ n1 n2 d1 d2 sl1 sl2 rfl rfl ne) ⟨g1, g2, (⟨(by intro e; cases e), V.bl false, H, I, rfl, fin⟩ : Value.bool false ≠ .notImplemented ∧ EP X pins σ Q (.bool false) s)⟩ hu
end RM

set_option Elab.async false
set_option linter.all false
set_option maxRecDepth 100000
set_option maxHeartbeats 2000000
set_option pp.maxSteps 600
set_option pp.deepTerms false
namespace RM
open PySem PySem.Spec PyProof.Rows L2
section
variable {P : Program} {w : World} {K : PySem.W.Frag} {mg : Str → Option Value} {base : Heap}
/-! ### the reflected + -/
theorem sc_Surroundings_radd : FnScope ["self", "change"] ["self", "change"] (defScope s_Surroundings_radd) := ⟨rfl, rfl, rfl, by decide +kernel, rfl, by decide +kernel, by decide +kernel⟩
theorem o_Surroundings_radd (T : Top w K mg) : OwnX P w K mg base 6 (He.ga K "Surroundings") "__radd__" (spAddS K) := by
  refine own_X (f_Surroundings_radd T) (spc_Surroundings_radd T) sc_Surroundings_radd (fun _ _ _ _ _ _ us hl => match us, hl with | [_, _], _ => rfl) (fun vs H Q E h => match vs, h with | [_, _], _ => rfl) (fun cdv A outer s H vs Q E hr h => ?_)
  match vs, h with
  | [x, y], h =>
  obtain ⟨a, c, m, g, rfl, rfl, sa, sc, q, qE⟩ := h
  obtain ⟨⟨dx, p, ha, hp, okm, sm⟩, l1, l4⟩ := id sa
  obtain ⟨⟨dy, p2, hc, hp2, okg, sg⟩, lg⟩ := id sc
  refine ⟨_, (pss_cons (ps_if (pt_not (pt_val (pcb (z_isinstance T) call_isi boot_isinstance (pa_cons (pv 1) (pa_cons (pglR (g_Change T)) pa_nil)))))
      (pss_one ps_never)
      pss_nil)
    (pss_one (ps_ret (pmk (c_Surroundings_init T) hr (pa_cons (pcX (takes_of rfl rfl rfl rfl) (c_changed T) hr (pa_cons (pe_fld (pv 0) rfl) (pa_cons (pv 1) pa_nil))) pa_nil))))), ?_⟩
  refine ⟨_, rfl, _, _, _, _, true, rfl, .own _, .base (insB_ty (ins_Change T) (k_Change T) hc), kitC_ok (kit_Change_Change T), ?_⟩
  refine ⟨_, rfl, ifF rfl ?_⟩
  refine ⟨_, rfl, a, _, dx, _, _, rfl, ha, k_Surroundings T, na_Surroundings_now T, rfl, _, rfl, p, c, m, g, rfl, rfl, hp, okm, l4, sc, fun nl r H1 e1 nr hr1 => ?_, qE⟩
  intro x dx2 hx hdx hne
  have kk := wKeys_over (lack_none nl)
  have ll := len_keys kk
  have mI := mk_in (C := He.ga K "Surroundings") hx hdx hne
  refine ⟨x, dx2, r, wOver m g, rfl, rfl, upd_same, mI _ _ hr1, okM_over okm okg.1, by rw [ll]; exact l1, by rw [ll]; exact l4, fun H' m2 off mp pm => ⟨rfl, ?_⟩⟩
  have e2 : m2 = wOver m g := by
    obtain ⟨_, _, _, _, _, s2⟩ := id mp
    exact sort_one pm (nodup_over okm.2 g) (sorted_over sm (lack_none nl)) s2
  subst e2
  refine q nl x H' (e1.trans (mk_sm hx hdx off)) (e1.free hx) ⟨mp, by rw [ll]; exact l1, by rw [ll]; exact l4⟩
/-! ### len -/
def spLenS (K : PySem.W.Frag) : Sp := fun vs H Q _ => match vs with
  | [x] => ∃ a m, x = .ref a ∧ SurAt K H a m ∧ Q (.int (m.length : Nat)) H
  | _ => False
theorem sc_Surroundings_len : FnScope ["self"] ["self"] (defScope s_Surroundings_len) := ⟨rfl, rfl, rfl, by decide +kernel, rfl, by decide +kernel, by decide +kernel⟩
theorem o_Surroundings_len (T : Top w K mg) : OwnC P w K mg base CX0 1 (He.ga K "Surroundings") "__len__" (spLenS K) := by
  refine own_C0 (f_Surroundings_len T) (spc_Surroundings_len T) sc_Surroundings_len (fun _ _ _ _ _ _ us hl => match us, hl with | [_], _ => rfl) (fun vs H Q E h => match vs, h with | [_], _ => rfl) (fun cdv A outer s H vs Q E hr h => ?_)
  match vs, h with
  | [x], h =>
  obtain ⟨a, m, rfl, ⟨⟨dx, p, ha, hp, okm, sm⟩, l1, l4⟩, q⟩ := h
  refine ⟨_, (pss_one (ps_ret (pcb (z_len T) call_lenD boot_len (pa_cons (pe_fld (pv 0) rfl) pa_nil)))), ?_⟩
  have lm : (mK m).length = m.length := List.length_map ..
  rw [← lm] at q
  exact ⟨_, rfl, a, _, dx, _, _, rfl, ha, k_Surroundings T, na_Surroundings_now T, rfl, p, _, rfl, hp, q⟩
end
end RM

set_option Elab.async false
set_option linter.all false
set_option maxRecDepth 100000
set_option maxHeartbeats 2000000
set_option pp.maxSteps 600
set_option pp.deepTerms false
namespace RM
open PySem PySem.Spec PyProof.Rows L2
section
variable {P : Program} {w : World} {K : PySem.W.Frag} {mg : Str → Option Value} {base : Heap}
/-! ### Change + Surroundings: NotImplemented -/
def spNiC (K : PySem.W.Frag) : List V → Hp → (Hp → Prop) → Prop := fun vs H Q => match vs with
  | [x, y] => ∃ (a b : Addr) (m : WM), x = .ref a ∧ y = .ref b ∧ SurAt K H b m ∧ Q H
  | _ => False
theorem sc_Change_add : FnScope ["self", "other"] ["self", "other"] (defScope s_Change_add) := ⟨rfl, rfl, rfl, by decide +kernel, rfl, by decide +kernel, by decide +kernel⟩
theorem n_Change_add (T : Top w K mg) : OwnNi P w K mg base 1 (He.ga K "Change") "__add__" (spNiC K) := by
  obtain ⟨fd, F⟩ := f_Change_add T
  refine ⟨_, fd, ["self", "other"], fn_ni F sc_Change_add (fun vs H Q h => match vs, h with | [_, _], _ => rfl) (fun cdv A outer s H vs Q hr h s1 I => ?_), (spcB_ok (spc_Change_add T)).1, (spcB_ok (spc_Change_add T)).2, F.bindsN (fun _ _ _ _ _ _ us hl => match us, hl with | [_, _], _ => rfl)⟩
  match vs, h with
  | [x, y], h =>
  obtain ⟨a, b, m, rfl, rfl, ⟨⟨dx, p, hb, hp, okm, sm⟩, _⟩, q⟩ := h
  refine ni_row (X := cxOf CX0 P w K mg base ["self", "other"] "Change.__add__" (defScope s_Change_add) (He.ma K (He.ga K "Change") "__add__") cdv A outer s H E0) (Q := Q) (pt_not (pt_val (pcb (z_isinstance T) call_isi boot_isinstance (pa_cons (pv 1) (pa_cons (pglR (g_Change T)) pa_nil))))) rfl (z_NotImplemented T) I ?_
  refine ⟨_, rfl, _, _, _, _, false, rfl, .own _, .base (insB_ty (ins_Surroundings T) (k_Surroundings T) hb), kitC_ok (kit_Surroundings_Change T), ?_⟩
  exact ⟨_, rfl, rfl, q⟩
end
end RM

set_option Elab.async false
set_option linter.all false
set_option maxRecDepth 100000
set_option maxHeartbeats 2000000
set_option pp.maxSteps 600
set_option pp.deepTerms false
namespace RM
open PySem PySem.Spec PyProof.Rows L2
section
variable {P : Program} {w : World} {K : PySem.W.Frag} {mg : Str → Option Value} {base : Heap}
theorem sc_BadValue_init : FnScope ["self", "value"] ["self", "value"] (defScope s_BadValue_init) := ⟨rfl, rfl, rfl, by decide +kernel, rfl, by decide +kernel, by decide +kernel⟩
theorem c_BadValue_init (T : Top w K mg) : Exo P w K mg base 1 "BadValue" (He.ga K "BadValue") (spExo (He.ga K "BadValue") "value") := by
  refine exo_0 (f_BadValue_init T) (oexB_ok (oex_BadValue T)) (me_BadValue_init T) (g_BadValue T) sc_BadValue_init (fun _ _ _ _ _ _ us hl => match us, hl with | [_, _], _ => rfl) (fun vs H Q E h => match vs, h with | [_, _], _ => rfl) (fun cdv A outer s H vs Q E hr h => ?_)
  match vs, h with
  | [x, v], h =>
  obtain ⟨a, rfl, ha, q⟩ := h
  refine ⟨_, (pss_one (ps_ost (pv 0) (pv 1))), ?_⟩
  exact ⟨_, rfl, _, rfl, a, _, rfl, oexB_ok (oex_BadValue T), na_BadValue_value T, .inl ⟨ha, fun dx h1 h2 => q dx h1 h2⟩⟩
/-! ### [] = -/
def wrongV (K : PySem.W.Frag) (H : Hp) (z : V) : Prop := (∃ n, z = .int n ∧ isValue n = false) ∨ ∃ d, Dp K H z d ∧ noInt d = true
def spSetS (K : PySem.W.Frag) : Sp := fun vs H Q E => match vs with
  | [x, y, z] => ∃ a dx p m k, x = .ref a ∧ y = .str k ∧ H a = some (.ins (He.ga K "Surroundings") dx [("now", .ref p)]) ∧ H p = some (.dK (mK m)) ∧ m.length ≤ 4 ∧
    (k ∉ wKeys m → ∀ e H', Same H H' → H' e = some (.xd [("key", .str k)]) → E (.ref (He.ga K "NoKey")) (some e) H') ∧
    (k ∈ wKeys m → (∃ n, z = .int n ∧ isValue n = true ∧ Q .non (upd H p (.dK (mK (wPut m k n))))) ∨ (wrongV K H z ∧ ∀ e H', Same H H' → H' e = some (.xd [("value", z)]) → E (.ref (He.ga K "BadValue")) (some e) H'))
  | _ => False
theorem sc_Surroundings_setitem : FnScope ["self", "key", "value"] ["self", "key", "value"] (defScope s_Surroundings_setitem) := ⟨rfl, rfl, rfl, by decide +kernel, rfl, by decide +kernel, by decide +kernel⟩
theorem o_Surroundings_setitem (T : Top w K mg) : OwnC P w K mg base (L2.CX P w) 3 (He.ga K "Surroundings") "__setitem__" (spSetS K) := by
  refine own_CX (f_Surroundings_setitem T) (spc_Surroundings_setitem T) sc_Surroundings_setitem (fun _ _ _ _ _ _ us hl => match us, hl with | [_, _, _], _ => rfl) (fun vs H Q E h => match vs, h with | [_, _, _], _ => rfl) (fun cdv A outer s H vs Q E hr h => ?_)
  match vs, h with
  | [x, y, z], h =>
  obtain ⟨a, dx, p, m, k, rfl, rfl, ha, hp, l4, qN, q⟩ := h
  refine ⟨_, (pss_cons (ps_if (pt_cmp (pc_dnotin (hu_of hr) (pv 1) (pe_fld (pv 0) rfl)))
      (pss_one (ps_raiseX (takes_of rfl rfl rfl rfl) (c_NoKey_init T) hr (pa_cons (pv 1) pa_nil)))
      pss_nil)
    (pss_cons (ps_if (pt_not (pt_val (pc (cg_is_value T) hr (pa_cons (pv 2) pa_nil))))
      (pss_one (ps_raiseX (takes_of rfl rfl rfl rfl) (c_BadValue_init T) hr (pa_cons (pv 2) pa_nil)))
      pss_nil)
    (pss_one (ps_dput (hu_of hr) (pe_fld (pv 0) rfl) (pv 1) (pv 2) rfl)))), ?_⟩
  refine ⟨_, rfl, _, rfl, a, _, dx, _, _, rfl, ha, k_Surroundings T, na_Surroundings_now T, rfl, p, _, rfl, .inl ⟨mK m, .inr k, .of hp, rfl, rfl⟩, _, rfl, ?_⟩
  rw [valV_get]
  cases e : wGet m k with
  | none =>
    refine ifT rfl ⟨_, rfl, ?_⟩
    exact raise1 fun d H' _ e' hd => qN (wGet_none.mp e) d H' e' hd
  | some n0 =>
    have km : k ∈ wKeys m := List.mem_map.mpr ⟨(k, n0), wGet_some e, rfl⟩
    refine ifF rfl ?_
    rcases q km with ⟨n, rfl, hn, q⟩ | ⟨wr, qB⟩
    · refine ⟨_, rfl, .inl ⟨n, rfl, ?_⟩⟩
      rw [hn]
      refine ⟨_, rfl, ifF rfl ?_⟩
      refine ⟨_, rfl, _, rfl, a, _, dx, _, _, rfl, ha, k_Surroundings T, na_Surroundings_now T, rfl, _, rfl, p, _, rfl, .inl ⟨mK m, .inr k, hp, rfl, small1000 (by show (m.map _).length ≤ 1000; rw [List.length_map]; omega), rfl⟩, ?_⟩
      rw [putK_w]
      exact q
    · rcases wr with ⟨n, rfl, hn⟩ | ⟨d, hd, hn⟩
      · refine ⟨_, rfl, .inl ⟨n, rfl, ?_⟩⟩
        rw [hn]
        refine ⟨_, rfl, ifT rfl ⟨_, rfl, ?_⟩⟩
        exact raise1 fun d H' _ e' hd => qB d H' e' hd
      · refine ⟨_, rfl, .inr ⟨d, hd, hn, ?_⟩⟩
        refine ⟨_, rfl, ifT rfl ⟨_, rfl, ?_⟩⟩
        exact raise1 fun d H' _ e' hd => qB d H' e' hd
end
end RM

set_option Elab.async false
set_option linter.all false
set_option maxRecDepth 100000
set_option maxHeartbeats 2000000
/-! own special methods within a try: what is let out is told at the slots -/
namespace RM
open PySem PySem.Spec PyProof.Rows L2
section
variable {X : Cx} {CX : CXT} {W : WX} {k j : Nat} {C : Addr} {sp : Sp} {E : XK} {a b o i : Expr} {ta tb to ti te : TE} {pos : Pos}
/-- an operation at the slots σ -/
def OpAt (X : Cx) (σ : L2.St) (f : Value → Value → Sem Value) (r : R2) : Prop := ∀ (pins : List (Addr × Obj)) (s : Shared) (H : Hp) (x y : V) (v u : Value) (Q : VK), Inv X pins σ H s → RelV x v → RelV y u → r x y H Q →
    wpAny (model X.prog X.w) X.A (f v u) (fun z s1 => EP X pins σ Q z s1) X.xe s
def tOpS (r : L2.St → R2) (ta tb : TE) : TE := fun σ H Q => ta σ H fun x H1 => tb σ H1 fun y H2 => r σ x y H2 Q
theorem pe_opS {op : Operator} {r : L2.St → R2} (ho : ∀ σ, OpAt X σ (binaryOp op) (r σ)) (ha : PE X a ta) (hb : PE X b tb) : PE X (.BinOp a op b pos) (tOpS r ta tb) := by
  refine ⟨fun pins s σ H Q I h => ?_⟩
  exact wpAny_BinOp (binT ha hb I h fun v u s2 x y H2 I2 rx ry q => ho σ pins s2 H2 x y v u Q I2 rx ry q)
theorem op_addGS {x y : Str} (tk : Takes X W) (two : twoB X.K x y = true) (c : OwnX X.prog X.w X.K X.mg X.base k (He.ga X.K x) "__add__" sp) (hr : Room j X.A) (σ : L2.St) (hk : k ≤ j := by omega) : OpAt X σ (binaryOp .Add) (rAddX (He.ga X.K x) (He.ga X.K y) sp (WE W σ)) := by
  rintro pins s H _ _ v u Q I rx ry ⟨a, b, dx, dy, fs, gs, rfl, rfl, ha, hb, hsp⟩
  obtain ⟨f, fd, ps, F, hs, hf, B⟩ := c
  obtain ⟨t1, two⟩ := He.ba two
  obtain ⟨t2, two⟩ := He.ba two
  obtain ⟨t3, two⟩ := He.ba two
  obtain ⟨t4, two⟩ := He.ba two
  obtain ⟨t5, two⟩ := He.ba two
  obtain ⟨t6, two⟩ := He.ba two
  obtain ⟨t7, t8⟩ := He.ba two
  obtain ⟨rC, hrC, kC⟩ := radd_of t7
  obtain ⟨rD, hrD, kD⟩ := radd_of t8
  cases rx
  cases ry
  obtain ⟨_, ia, _⟩ := ins_get I.hok ha
  obtain ⟨_, ib, _⟩ := ins_get I.hok hb
  obtain ⟨_, la, _⟩ := ia.look
  obtain ⟨_, lb, _⟩ := ib.look
  refine binop_two I.fr.choose_spec I.ok.mod.kin la lb.type (of_decide_eq_true t3) t1 t2 hs hf (spcB_ok t5).1 hrC hrD kC kD (of_decide_eq_true t6) ?_
  refine thn (run_fnS (vs := [.ref a, .ref b]) F (hr.mono hk) B (passAt tk σ) I (.cons rfl (.cons rfl .nil)) hsp) fun r s1 z => ?_
  obtain ⟨z, H1, I1, rz, q⟩ := z
  have some := not_ni rz
  cases r <;> first | exact absurd rfl some | exact ⟨z, H1, I1, rz, q⟩
theorem op_addRS {k2 : Nat} {x y : Str} {spn : List V → Hp → (Hp → Prop) → Prop} (tk : Takes X W) (two : twoB X.K x y = true) (n : OwnNi X.prog X.w X.K X.mg X.base k2 (He.ga X.K x) "__add__" spn) (c : OwnX X.prog X.w X.K X.mg X.base k (He.ga X.K y) "__radd__" sp) (hr : Room j X.A) (σ : L2.St) (hk : k ≤ j := by omega) (hk2 : k2 ≤ j := by omega) :
    OpAt X σ (binaryOp .Add) (rAddR (He.ga X.K x) (He.ga X.K y) spn sp (WE W σ)) := by
  rintro pins s H _ _ v u Q I rx ry ⟨a, b, dx, dy, fs, gs, rfl, rfl, ha, hb, hn, hsp⟩
  obtain ⟨f, fd, ps, F, hs, hf, B⟩ := n
  obtain ⟨g, gd, qs, G, hgs, hgf, Bg⟩ := c
  obtain ⟨t1, two⟩ := He.ba two
  obtain ⟨t2, two⟩ := He.ba two
  obtain ⟨t3, two⟩ := He.ba two
  obtain ⟨t4, two⟩ := He.ba two
  obtain ⟨t5, two⟩ := He.ba two
  obtain ⟨t6, two⟩ := He.ba two
  obtain ⟨t7, t8⟩ := He.ba two
  obtain ⟨rC, hrC, kC⟩ := radd_of t7
  obtain ⟨rD, hrD, kD⟩ := radd_of t8
  cases rx
  cases ry
  obtain ⟨_, ia, _⟩ := ins_get I.hok ha
  obtain ⟨_, ib, _⟩ := ins_get I.hok hb
  obtain ⟨_, la, _⟩ := ia.look
  obtain ⟨_, lb, _⟩ := ib.look
  refine binop_refl I.fr.choose_spec I.ok.mod.kin la lb.type (of_decide_eq_true t3) t1 t2 hs hf (spcB_ok t5).1 hrC hrD kC kD hgs hgf (of_decide_eq_true t6) ?_
  refine thn (ask_ni (vs := [.ref a, .ref b]) F B (hr.mono hk2) I (.cons rfl (.cons rfl .nil)) hn) fun r s1 z => ?_
  obtain ⟨rfl, H', I1, rfl⟩ := z
  obtain ⟨_, ia1, _⟩ := ins_get I1.hok ha
  obtain ⟨_, ib1, _⟩ := ins_get I1.hok hb
  obtain ⟨_, la1, _⟩ := ia1.look
  obtain ⟨_, lb1, _⟩ := ib1.look
  refine ⟨rfl, I1.kIn, la1.type, ⟨_, _, lb1⟩, ?_⟩
  refine thn (run_fnS (vs := [.ref b, .ref a]) G (hr.mono hk) Bg (passAt tk σ) I1 (.cons rfl (.cons rfl .nil)) hsp) fun r s2 z => ?_
  obtain ⟨z, H2, I2, rz, q⟩ := z
  have some := not_ni rz
  cases r <;> first | exact absurd rfl some | exact ⟨z, H2, I2, rz, q⟩
/-- a def called one level in -/
theorem ask_in1S {f : Addr} {fd : FuncData} {ps : List Str} {pins : List (Addr × Obj)} {σ : L2.St} {H : Hp} {s : Shared} {vs : List V} {us : List Value} {Q : VK} (F : FnOk X.prog X.w X.K X.mg X.base CX k f fd ps sp) (B : Binds X.K fd ps []) (hr : Room (k + 1) X.A) (hx : PassesAt CX X σ E)
    (I : Inv X pins σ H s) (r : Vals vs us) (h : sp vs H Q E) : wpAny (model X.prog X.w) X.A.in1 (call (.ref f) us) (EP X pins σ Q) X.xe s := by
  have len : us.length = ps.length := by rw [← r.length]; exact F.len _ _ _ _ h
  have given := B s us I.kIn (by rw [List.append_nil]; exact len)
  rw [List.append_nil] at given
  refine wpAny_call (codeAny_mono (F.run X.A.in1 X.stack s H ⟨us, []⟩ us vs Q E hr.in1 I.env0.in1 given r h) fun out s1 z => ?_)
  match out, z with
  | .ok (.ret _), z => exact I.after z
  | .error e, z => exact hx pins H s e s1 I z
  | .ok .next, z => exact z.elim
  | .ok .brk, z => exact z.elim
  | .ok .cont, z => exact z.elim
/-- a[b] -/
def tGetS (C : Addr) (sp : Sp) (E : L2.St → XK) (ta tb : TE) : TE := fun σ H Q => ta σ H fun x H1 => tb σ H1 fun y H2 => ∃ a dx fs, x = .ref a ∧ H2 a = some (.ins C dx fs) ∧ sp [x, y] H2 Q (E σ)
theorem pe_getS (tk : Takes X W) (c : OwnC X.prog X.w X.K X.mg X.base (L2.CX X.prog X.w) k C "__getitem__" sp) (hr : Room j X.A) (ha : PE X a ta) (hb : PE X b tb) (hk : k + 1 ≤ j := by omega)
    (hsl : ∀ v u, subscripted b true v u = runValue (.builtin "lifetime.subscript" ⟨[v, u], []⟩) := by intro _ _; rfl) : PE X (.Subscript a b pos) (tGetS C sp (WE W) ta tb) := by
  obtain ⟨f, fd, ps, F, hs, hf, B, hn⟩ := c
  refine ⟨fun pins s σ H Q I h => ?_⟩
  refine Subscript_ (thn (ha.run pins s σ H _ I h) fun v s1 ⟨x, H1, I1, rx, h1⟩ => thn (hb.run pins s1 σ H1 _ I1 h1) fun u s2 ⟨y, H2, I2, ry, h2⟩ => ?_)
  obtain ⟨p, dx, fs, rfl, hp, h3⟩ := h2
  cases rx
  obtain ⟨_, ip, _⟩ := ins_get I2.hok hp
  obtain ⟨_, lp, _⟩ := ip.look
  exact PySem.W.sub_K I2.fr.choose_spec I2.ok.mod.kin lp hs hn hf (ask_in1S (vs := [.ref p, y]) F B (hr.mono hk) (passAt tk σ) I2 (.cons rfl (.cons ry .nil)) h3) (hsl _ _)
/-- o[i] = .. -/
def gSubS (C : Addr) (sp : Sp) (E : L2.St → XK) (to ti : TE) : TG := fun v σ H Q => to σ H fun o H1 => ti σ H1 fun i H2 => ∃ a dx fs, o = .ref a ∧ H2 a = some (.ins C dx fs) ∧ sp [o, i, v] H2 (fun _ H' => Q σ H') (E σ)
theorem pg_subS (tk : Takes X W) (ho : PE X o to) (hi : PE X i ti) (hq : PySem.W.noSeq X.K C = true) (c : OwnC X.prog X.w X.K X.mg X.base (L2.CX X.prog X.w) k C "__setitem__" sp) (hr : Room j X.A) (hk : k ≤ j := by omega)
    (steps : ∀ z, assign (.Subscript o i pos) X.env z = (do
      let ho ← holding [z] (eval o X.env); let hk ← holding [z, ho] (eval i X.env)
      standAt pos
      holding [z, ho, hk] (setItem ho hk z); release [z, ho, hk] []) := by intro _; rfl) : PG X (.Subscript o i pos) (gSubS C sp (WE W) to ti) := by
  constructor
  intro pins s σ H v u Q I r h
  rw [steps]
  refine wpAny_bind (wpAny_holding (thn (ho.run pins s σ H _ I h) ?_))
  rintro ow s1 ⟨x, H1, I1, r1, q1⟩
  refine wpAny_bind (wpAny_holding (thn (hi.run pins s1 σ H1 _ I1 q1) ?_))
  rintro iv s2 ⟨y, H2, I2, r2, ⟨p, dx, fs, rfl, hp, h3⟩⟩
  obtain ⟨f, fd, ps, F, hs, hf, B, hn⟩ := c
  cases r1
  obtain ⟨_, ia, _⟩ := ins_get I2.hok hp
  obtain ⟨_, la, _⟩ := ia.look
  have XK := I2.kIn
  have one : wpAny (model X.prog X.w) X.A (setItem (.ref p) iv u) (fun _ s' => ∃ H', Inv X pins σ H' s' ∧ Q σ H') X.xe s2 := by
    unfold setItem sequenceKey
    refine wpAny_holding (wpAny_bind (wpAny_bind (la.type.here ?_)))
    refine wpAny_bind ((PySem.W.anyM_none XK hq).here ?_)
    rw [if_pos (by rfl : (!false) = true)]
    refine wpAny_pure (wpAny_bind (PySem.W.special_fn XK la hs (beq_iff_eq.mp hf) (thn (run_fnS (vs := [.ref p, y, v]) F (hr.mono hk) B (passAt tk σ) I2 (.cons rfl (.cons r2 (.cons r .nil))) h3) fun w s3 z => ?_)))
    obtain ⟨z, H3, I3, rz, q⟩ := z
    exact wpAny_pure ⟨H3, I3, q⟩
  refine wpAny_bind (wpAny_standAt (wpAny_bind (wpAny_holding (thn one ?_))))
  rintro _ s3 ⟨HR, IR, qR⟩
  exact wpAny_release ⟨σ, HR, IR, qR⟩
/-- name += e, the name's value of an own class -/
def tAugO (i : Nat) (te : TE) (C : Addr) (sp : Sp) (E : L2.St → XK) : L2.TS := fun D σ H => ∃ x, σ[i]? = some (some x) ∧ te σ H fun y H1 => ∃ a dx fs, x = .ref a ∧ H1 a = some (.ins C dx fs) ∧ sp [x, y] H1 (fun z H2 => D.nx (σ.set i (some z)) H2) (E σ)
theorem ps_augO {i : Nat} {x : Str} {e : Expr} {te : TE} {pos' : Pos} (tk : Takes X W) (hN : X.N.Nodup) (hi : X.N[i]? = some x) (hx : Loc X.env.scope x) (he : PE X e te) (c : OwnC X.prog X.w X.K X.mg X.base (L2.CX X.prog X.w) k C "__iadd__" sp) (sf : PySem.W.selfFirst X.K C = true) (hr : Room j X.A) (hk : k ≤ j := by omega)
    (hf : X.fn x = true ∨ X.env.scope.names.lookup x = some .local := by first | exact .inl rfl | exact .inr rfl | assumption) : PS X (.AugAssign (.Name x pos') .Add e pos) (tAugO i te C sp (WE W)) := by
  refine ⟨fun pins s σ H D I h => ?_⟩
  obtain ⟨v, e1, h⟩ := h
  obtain ⟨m, hn, hl2⟩ := I.loc
  have vis : Vis X.env.scope x := hx.elim Or.inl fun k => Or.inr (Or.inl k)
  obtain ⟨u, r, l⟩ := hl2 i x v hi e1 vis
  apply wpAny_AugAssign_Name
  have go : wpAny (model X.prog X.w) X.A (eval e X.env) (fun w s₂ => wpAny (model X.prog X.w) X.A (inplaceOp .Add u w) (fun r s₃ => wpAny (model X.prog X.w) X.A (storeName X.env x r) (fun _ => SP X pins D .next) X.xe s₃) X.xe s₂) X.xe s := by
    refine thn (he.run pins s σ H _ I h) ?_
    rintro w s1 ⟨y, H1, I1, r1, ⟨p, dx, fs, rfl, hp, h3⟩⟩
    obtain ⟨f, fd, ps, F, hs, hfn, B, _⟩ := c
    cases r
    obtain ⟨_, ia, _⟩ := ins_get I1.hok hp
    obtain ⟨_, la, _⟩ := ia.look
    refine PySem.W.ksp_inplace I1.fr.choose_spec I1.ok.mod.kin la sf hs hfn (thn (run_fnS (vs := [.ref p, y]) F (hr.mono hk) B (passAt tk σ) I1 (.cons rfl (.cons r1 .nil)) h3) fun w2 s2 z => ?_)
    obtain ⟨z, H2, I2, rz, q⟩ := z
    have nn := not_ni rz
    cases w2 <;> first | exact absurd rfl nn | exact store_ok I2 hN hi hx rz (fun s3 I3 => ⟨_, H2, I3, q⟩) hf
  obtain ⟨lk, at_⟩ | ⟨hk, _, cl, at_⟩ := l
  · exact wpAny_loadName_local I.ok.kind lk hn at_ go
  · rcases hk with hk | hk
    · exact wpAny_loadName_cell I.ok.kind hk cl at_ go
    · rcases hx with k | k
      · have z : X.env.scope.names.lookup x = some .free := hk
        rw [k] at z; cases z
      · have z : X.env.scope.names.lookup x = some .free := hk
        rw [k] at z; cases z
end
end RM

set_option Elab.async false
set_option linter.all false
set_option maxRecDepth 100000
set_option maxHeartbeats 2000000
set_option pp.maxSteps 600
set_option pp.deepTerms false
namespace RM
open PySem PySem.Spec PyProof.Rows L2
theorem same_two {H H1 : Hp} (e : Same H H1) (p : Addr) (o : HO) : Same (upd H p o) (upd H1 p o) := fun b u hb => by
  by_cases z : b = p
  · rw [z] at hb ⊢; rw [upd_same] at hb ⊢; exact hb
  · rw [upd_ne z] at hb ⊢; exact e _ _ hb
section
variable {P : Program} {w : World} {K : PySem.W.Frag} {mg : Str → Option Value} {base : Heap}
/-! ### _law_set -/
def spLawSet (K : PySem.W.Frag) : Sp := fun vs H Q _ => match vs with
  | [x, y, z] => ∃ a dx p m k, x = .ref a ∧ y = .str k ∧ H a = some (.ins (He.ga K "Surroundings") dx [("now", .ref p)]) ∧ H p = some (.dK (mK m)) ∧ m.length ≤ 4 ∧
    (k ∉ wKeys m → ∀ t H', Same H H' → H' t = some (.tup [.str "key", .str k]) → Q (.ref t) H') ∧
    (k ∈ wKeys m → (∃ n, z = .int n ∧ isValue n = true ∧ ∀ t H', Same (upd H p (.dK (mK (wPut m k n)))) H' → H' t = some (.tup [.str "good"]) → Q (.ref t) H') ∨
      (wrongV K H z ∧ ∀ t H', Same H H' → H' t = some (.tup [.str "value", z]) → Q (.ref t) H'))
  | _ => False
theorem wrongV.keep {H H' : Hp} {z : V} (e : Same H H') (h : wrongV K H z) : wrongV K H' z := h.imp id fun ⟨d, a, b⟩ => ⟨d, Dp.keep e a, b⟩
theorem sc_law_set : FnScope ["_law_place", "_law_key", "_law_value", "_law_told", "e"] ["_law_place", "_law_key", "_law_value"] (defScope s_law_set) := ⟨rfl, rfl, rfl, by decide +kernel, rfl, by decide +kernel, by decide +kernel⟩
theorem c_law_set (T : Top w K mg) : Cal P w K mg base CX0 4 "_law_set" (spLawSet K) := by
  refine cal_0 (f_law_set T) (g_law_set T) sc_law_set (fun _ _ _ _ _ _ us hl => match us, hl with | [_, _, _], _ => rfl) (fun vs H Q E h => match vs, h with | [_, _, _], _ => rfl) (fun cdv A outer s H vs Q E hr h => ?_)
  match vs, h with
  | [x, y, z], h =>
  obtain ⟨a, dx, p, m, k, rfl, rfl, ha, hp, l4, qN, q⟩ := h
  refine ⟨_, (pss_cons (ps_set (i := 3) sc_law_set.nd rfl (Or.inl rfl) (pe_tup (pa_cons pe_str pa_nil)))
    (pss_cons (ps_tryG (fun W pn xe tk => (pss_one (ps_asg (pv 2) (pg_subS tk (pv 0) (pv 1) (nsq_Surroundings T) (o_Surroundings_setitem T) hr))))
      (hds_as (i := 4) sc_law_set.nd rfl rfl ⟨rfl, by decide, Or.inl (g_NoKey T)⟩
      (fun a oe cls d pn hz hf => (pss_one (ps_set (i := 3) sc_law_set.nd rfl (Or.inl rfl) (pe_tup (pa_cons pe_str (pa_cons (pe_xf (xfB_ok (xf_NoKey T)) (na_NoKey_key T) hz hf (pv 4)) pa_nil))))))
      (hds_as (i := 4) sc_law_set.nd rfl rfl ⟨rfl, by decide, Or.inl (g_BadValue T)⟩
      (fun a oe cls d pn hz hf => (pss_one (ps_set (i := 3) sc_law_set.nd rfl (Or.inl rfl) (pe_tup (pa_cons pe_str (pa_cons (pe_xf (xfB_ok (xf_BadValue T)) (na_BadValue_value T) hz hf (pv 4)) pa_nil))))))
      (hds_nil takes0))))
    (pss_one (ps_ret (pv 3))))), ?_⟩
  refine ⟨(by show 1 ≤ sizeLine; decide), fun t0 ht0 => ?_⟩
  have s1 := smNew1 ht0 (.tup [.str "good"])
  refine ⟨_, rfl, _, rfl, _, rfl, a, _, _, rfl, s1 _ _ ha, a, dx, p, m, k, rfl, rfl, s1 _ _ ha, s1 _ _ hp, l4, fun nk e H' e1 he => ?_, fun yk => ?_⟩
  · refine ⟨true, xm_NoKey_NoKey T, ifT rfl fun b hb => ?_⟩
    refine ⟨_, rfl, rfl, rfl, e, _, .str k, rfl, he, rfl, (by show 2 ≤ sizeLine; decide), fun t ht => ?_⟩
    exact ⟨_, rfl, qN nk t _ (smNew (s1.trans e1) ht _) upd_same⟩
  · rcases q yk with ⟨n, rfl, hn, q⟩ | ⟨wr, q⟩
    · refine .inl ⟨n, rfl, hn, ⟨_, rfl, q t0 _ (same_two s1 p _) ?_⟩⟩
      rw [upd_ne (ne_of_none hp ht0).symm]
      exact upd_same
    · refine .inr ⟨wr.keep s1, fun e H' e1 he => ?_⟩
      refine ⟨false, xm_BadValue_NoKey T, ifF rfl ⟨true, xm_BadValue_BadValue T, ifT rfl fun b hb => ?_⟩⟩
      refine ⟨_, rfl, rfl, rfl, e, _, z, rfl, he, rfl, (by show 2 ≤ sizeLine; decide), fun t ht => ?_⟩
      exact ⟨_, rfl, q t _ (smNew (s1.trans e1) ht _) upd_same⟩
/-! ### _law_read -/
def spLawRead (K : PySem.W.Frag) : Sp := fun vs H Q _ => match vs with
  | [x, y] => ∃ a m k, x = .ref a ∧ y = .str k ∧ SurAt K H a m ∧ (∀ n, wGet m k = some n → ∀ t H', Same H H' → H' t = some (.tup [.str "good", .int n]) → Q (.ref t) H') ∧
    (k ∉ wKeys m → ∀ t H', Same H H' → H' t = some (.tup [.str "key", .str k]) → Q (.ref t) H')
  | _ => False
theorem sc_law_read : FnScope ["_law_place", "_law_key", "_law_told", "e"] ["_law_place", "_law_key"] (defScope s_law_read) := ⟨rfl, rfl, rfl, by decide +kernel, rfl, by decide +kernel, by decide +kernel⟩
theorem c_law_read (T : Top w K mg) : Cal P w K mg base CX0 5 "_law_read" (spLawRead K) := by
  refine cal_0 (f_law_read T) (g_law_read T) sc_law_read (fun _ _ _ _ _ _ us hl => match us, hl with | [_, _], _ => rfl) (fun vs H Q E h => match vs, h with | [_, _], _ => rfl) (fun cdv A outer s H vs Q E hr h => ?_)
  match vs, h with
  | [x, y], h =>
  obtain ⟨a, m, k, rfl, rfl, sa, q, qN⟩ := h
  obtain ⟨⟨dx, p, ha, hp, okm, sm⟩, l1, l4⟩ := id sa
  refine ⟨_, (pss_cons (ps_set (i := 2) sc_law_read.nd rfl (Or.inl rfl) pe_non)
    (pss_cons (ps_tryG (fun W pn xe tk => (pss_one (ps_set (i := 2) sc_law_read.nd rfl (Or.inl rfl) (pe_tup (pa_cons pe_str (pa_cons (pe_getS tk (o_Surroundings_getitem T) hr (pv 0) (pv 1)) pa_nil))))))
      (hds_as (i := 3) sc_law_read.nd rfl rfl ⟨rfl, by decide, Or.inl (g_NoKey T)⟩
      (fun a oe cls d pn hz hf => (pss_one (ps_set (i := 2) sc_law_read.nd rfl (Or.inl rfl) (pe_tup (pa_cons pe_str (pa_cons (pe_xf (xfB_ok (xf_NoKey T)) (na_NoKey_key T) hz hf (pv 3)) pa_nil))))))
      (hds_nil takes0)))
    (pss_one (ps_ret (pv 2))))), ?_⟩
  refine ⟨_, rfl, _, rfl, a, _, _, rfl, ha, a, m, k, rfl, rfl, sa, fun n hn => ?_, fun nk e H' e1 he => ?_⟩
  · refine ⟨(by show 2 ≤ sizeLine; decide), fun t ht => ?_⟩
    exact ⟨_, rfl, q n hn t _ (smNew1 ht _) upd_same⟩
  · refine ⟨true, xm_NoKey_NoKey T, ifT rfl fun b hb => ?_⟩
    refine ⟨_, rfl, rfl, rfl, e, _, .str k, rfl, he, rfl, (by show 2 ≤ sizeLine; decide), fun t ht => ?_⟩
    exact ⟨_, rfl, qN nk t _ (smNew e1 ht _) upd_same⟩
/-! ### _law_sum -/
def spLawSum (K : PySem.W.Frag) : Sp := fun vs H Q _ => match vs with
  | [x, y, z] => ∃ a c m g, ∃ i : Int, x = .ref a ∧ y = .ref c ∧ z = .int i ∧ SurAt K H a m ∧ ChgAt K H c g ∧
    (lack m g = none → ∀ p H', Same H H' → H p = none → SurAt K H' p (wOver m g) → Q (.ref p) H') ∧
    (∀ k, lack m g = some k → ∀ t H', Same H H' → H' t = some (.tup [.str "key", .str k]) → Q (.ref t) H')
  | _ => False
theorem sc_law_sum : FnScope ["_law_place", "_law_change", "_law_way", "_law_told", "e"] ["_law_place", "_law_change", "_law_way"] (defScope s_law_sum) := ⟨rfl, rfl, rfl, by decide +kernel, rfl, by decide +kernel, by decide +kernel⟩
theorem c_law_sum (T : Top w K mg) : Cal P w K mg base CX0 8 "_law_sum" (spLawSum K) := by
  refine cal_0 (f_law_sum T) (g_law_sum T) sc_law_sum (fun _ _ _ _ _ _ us hl => match us, hl with | [_, _, _], _ => rfl) (fun vs H Q E h => match vs, h with | [_, _, _], _ => rfl) (fun cdv A outer s H vs Q E hr h => ?_)
  match vs, h with
  | [x, y, z], h =>
  obtain ⟨a, c, m, g, i, rfl, rfl, rfl, sa, sc, q, qN⟩ := h
  obtain ⟨⟨dx, p, ha, hp, okm, sm⟩, l1, l4⟩ := id sa
  obtain ⟨⟨dy, p2, hc, hp2, okg, sg⟩, lg⟩ := id sc
  refine ⟨_, (pss_cons (ps_set (i := 3) sc_law_sum.nd rfl (Or.inl rfl) pe_non)
    (pss_cons (ps_tryG (fun W pn xe tk => (pss_one (ps_if (pt_cmpR op_eq (pv 2) pe_int (nomark _))
      (pss_one (ps_set (i := 3) sc_law_sum.nd rfl (Or.inl rfl) (pe_opS (r := fun σ => rAddX (He.ga K "Surroundings") (He.ga K "Change") (spAddS K) (WE W σ)) (fun σ => op_addGS tk (two_Surroundings_Change T) (o_Surroundings_add T) hr σ) (pv 0) (pv 1))))
      (pss_one (ps_set (i := 3) sc_law_sum.nd rfl (Or.inl rfl) (pe_opS (r := fun σ => rAddR (He.ga K "Change") (He.ga K "Surroundings") (spNiC K) (spAddS K) (WE W σ)) (fun σ => op_addRS tk (two_Change_Surroundings T) (n_Change_add T) (o_Surroundings_radd T) hr σ) (pv 1) (pv 0)))))))
      (hds_as (i := 4) sc_law_sum.nd rfl rfl ⟨rfl, by decide, Or.inl (g_NoKey T)⟩
      (fun a oe cls d pn hz hf => (pss_one (ps_set (i := 3) sc_law_sum.nd rfl (Or.inl rfl) (pe_tup (pa_cons pe_str (pa_cons (pe_xf (xfB_ok (xf_NoKey T)) (na_NoKey_key T) hz hf (pv 4)) pa_nil))))))
      (hds_nil takes0)))
    (pss_one (ps_ret (pv 3))))), ?_⟩
  refine ⟨_, rfl, rfl, _, rfl, ?_⟩
  refine ifB (fun hi => ?_) (fun hi => ?_)
  · refine ⟨_, rfl, _, rfl, a, c, dx, dy, _, _, rfl, rfl, ha, hc, a, c, m, g, rfl, rfl, sa, sc, fun nl r H' e1 nr sr => ?_, fun k hk e H' e1 he => ?_⟩
    · exact ⟨_, rfl, q nl r H' e1 nr sr⟩
    · refine ⟨true, xm_NoKey_NoKey T, ifT rfl fun b hb => ?_⟩
      refine ⟨_, rfl, rfl, rfl, e, _, .str k, rfl, he, rfl, (by show 2 ≤ sizeLine; decide), fun t ht => ?_⟩
      exact ⟨_, rfl, qN k hk t _ (smNew e1 ht _) upd_same⟩
  · refine ⟨_, rfl, _, rfl, c, a, dy, dx, _, _, rfl, rfl, hc, ha, ⟨c, a, m, rfl, rfl, sa, rfl⟩, a, c, m, g, rfl, rfl, sa, sc, fun nl r H' e1 nr sr => ?_, fun k hk e H' e1 he => ?_⟩
    · exact ⟨_, rfl, q nl r H' e1 nr sr⟩
    · refine ⟨true, xm_NoKey_NoKey T, ifT rfl fun b hb => ?_⟩
      refine ⟨_, rfl, rfl, rfl, e, _, .str k, rfl, he, rfl, (by show 2 ≤ sizeLine; decide), fun t ht => ?_⟩
      exact ⟨_, rfl, qN k hk t _ (smNew e1 ht _) upd_same⟩
/-! ### _law_in_place -/
def spLawIn (K : PySem.W.Frag) : Sp := fun vs H Q _ => match vs with
  | [x, y] => ∃ a c m g, x = .ref a ∧ y = .ref c ∧ SurAt K H a m ∧ ChgAt K H c g ∧
    (lack m g = none → ∀ dx p0 p H1, H a = some (.ins (He.ga K "Surroundings") dx [("now", .ref p0)]) → Same H H1 → H p = none → H1 p = some (.dK (mK (wOver m g))) → ∀ t H', Same (upd H1 a (.ins (He.ga K "Surroundings") dx [("now", .ref p)])) H' → H' t = some (.tup [.str "good", .ref a]) → Q (.ref t) H') ∧
    (∀ k, lack m g = some k → ∀ t H', Same H H' → H' t = some (.tup [.str "key", .str k]) → Q (.ref t) H')
  | _ => False
theorem sc_law_in_place : FnScope ["_law_place", "_law_change", "_law_told", "_law_other", "e"] ["_law_place", "_law_change"] (defScope s_law_in_place) := ⟨rfl, rfl, rfl, by decide +kernel, rfl, by decide +kernel, by decide +kernel⟩
theorem c_law_in_place (T : Top w K mg) : Cal P w K mg base CX0 6 "_law_in_place" (spLawIn K) := by
  refine cal_0 (f_law_in_place T) (g_law_in_place T) sc_law_in_place (fun _ _ _ _ _ _ us hl => match us, hl with | [_, _], _ => rfl) (fun vs H Q E h => match vs, h with | [_, _], _ => rfl) (fun cdv A outer s H vs Q E hr h => ?_)
  match vs, h with
  | [x, y], h =>
  obtain ⟨a, c, m, g, rfl, rfl, sa, sc, q, qN⟩ := h
  obtain ⟨⟨dx, p, ha, hp, okm, sm⟩, l1, l4⟩ := id sa
  refine ⟨_, (pss_cons (ps_set (i := 2) sc_law_in_place.nd rfl (Or.inl rfl) (pe_tup (pa_cons pe_str (pa_cons (pv 0) pa_nil))))
    (pss_cons (ps_tryG (fun W pn xe tk => (pss_cons (ps_set (i := 3) sc_law_in_place.nd rfl (Or.inl rfl) (pv 0))
    (pss_cons (ps_augO (i := 3) tk sc_law_in_place.nd rfl (Or.inl rfl) (pv 1) (o_Surroundings_iadd T) (two_first (two_Surroundings_Change T)).1 hr)
    (pss_one (ps_set (i := 2) sc_law_in_place.nd rfl (Or.inl rfl) (pe_tup (pa_cons pe_str (pa_cons (pv 3) pa_nil))))))))
      (hds_as (i := 4) sc_law_in_place.nd rfl rfl ⟨rfl, by decide, Or.inl (g_NoKey T)⟩
      (fun a oe cls d pn hz hf => (pss_one (ps_set (i := 2) sc_law_in_place.nd rfl (Or.inl rfl) (pe_tup (pa_cons pe_str (pa_cons (pe_xf (xfB_ok (xf_NoKey T)) (na_NoKey_key T) hz hf (pv 4)) pa_nil))))))
      (hds_nil takes0)))
    (pss_one (ps_ret (pv 2))))), ?_⟩
  refine ⟨_, rfl, (by show 2 ≤ sizeLine; decide), fun t0 ht0 => ?_⟩
  have s1 := smNew1 ht0 (.tup [.str "good", .ref a])
  refine ⟨_, rfl, _, rfl, _, rfl, a, dx, _, rfl, s1 _ _ ha, a, c, m, g, rfl, rfl, sa.keep s1, sc.keep s1, fun nl dx' p0 p1 H1 ha' e1 np hp1 => ?_, fun k hk e H' e1 he => ?_⟩
  · have z := (s1 _ _ ha).symm.trans ha'
    obtain ⟨rfl, rfl⟩ : dx = dx' ∧ p = p0 := by
      injection z with z; injection z with _ z1 z2
      refine ⟨z1, ?_⟩
      injection z2 with z2 _; injection z2 with _ z2; injection z2
    refine ⟨_, rfl, (by show 2 ≤ sizeLine; decide), fun t ht => ?_⟩
    exact ⟨_, rfl, q nl dx p p1 H1 ha (s1.trans e1) (s1.free np) hp1 t _ (smNew1 ht _) upd_same⟩
  · refine ⟨true, xm_NoKey_NoKey T, ifT rfl fun b hb => ?_⟩
    refine ⟨_, rfl, rfl, rfl, e, _, .str k, rfl, he, rfl, (by show 2 ≤ sizeLine; decide), fun t ht => ?_⟩
    exact ⟨_, rfl, qN k hk t _ (smNew (s1.trans e1) ht _) upd_same⟩
end
end RM

set_option Elab.async false
set_option linter.all false
set_option maxRecDepth 100000
set_option maxHeartbeats 2000000
namespace RM
open PySem PySem.Spec PyProof.Rows L2
/-! ### the draws: a list of four at d, apart from all else -/
def Hd4 (H : Hp) (d sc : Addr) : Prop := ∃ (p q r : Int), H d = some (.lst [.ref sc, .int p, .int q, .int r]) ∧ 0 ≤ p
def Scr (K : PySem.W.Frag) (H : Hp) (sc : Addr) : Prop := ∃ xs : List Int, SqL K H sc (xs.map V.int)
def DrawAt (K : PySem.W.Frag) (H : Hp) (d sc : Addr) : Prop := Hd4 H d sc ∧ Scr K (del H d) sc
/-- all but d is kept -/
def But (d : Addr) (H H' : Hp) : Prop := Same (del H d) (del H' d)
theorem But.refl (d : Addr) (H : Hp) : But d H H := Same.refl _
theorem But.trans {d : Addr} {H H1 H2 : Hp} (a : But d H H1) (b : But d H1 H2) : But d H H2 := Same.trans a b
theorem del_sm (H : Hp) (d : Addr) : Same (del H d) H := fun b u z => by
  by_cases hb : b = d
  · rw [hb, del_same] at z
    cases z
  · rwa [del_ne hb] at z
theorem but_upd (d : Addr) (H : Hp) (o : HO) : But d H (upd H d o) := fun b u z => by
  by_cases hb : b = d
  · rw [hb, del_same] at z
    cases z
  · rw [del_ne hb] at z ⊢
    rw [upd_ne hb]
    exact z
theorem but_sm {d : Addr} {H H' : Hp} (e : Same H H') : But d H H' := fun b u z => by
  by_cases hb : b = d
  · rw [hb, del_same] at z
    cases z
  · rw [del_ne hb] at z ⊢
    exact e _ _ z
theorem But.get {d b : Addr} {H H' : Hp} {o : HO} (e : But d H H') (hb : b ≠ d) (h : H b = some o) : H' b = some o := by
  have := e b o (by rw [del_ne hb]; exact h)
  rwa [del_ne hb] at this
theorem Scr.keep {K : PySem.W.Frag} {H H' : Hp} {sc : Addr} (e : Same H H') (h : Scr K H sc) : Scr K H' sc := let ⟨xs, h⟩ := h; ⟨xs, e.seq h⟩
theorem Hd4.keep {H H' : Hp} {d sc : Addr} (e : Same H H') (h : Hd4 H d sc) : Hd4 H' d sc := let ⟨p, q, r, h, z⟩ := h; ⟨p, q, r, e _ _ h, z⟩
theorem DrawAt.keep {K : PySem.W.Frag} {H H' : Hp} {d sc : Addr} (e : Same H H') (h : DrawAt K H d sc) : DrawAt K H' d sc := ⟨h.1.keep e, h.2.keep (but_sm e)⟩
theorem DrawAt.set {K : PySem.W.Frag} {H : Hp} {d sc : Addr} {xs : List Int} (h2 : SqL K (del H d) sc (xs.map V.int)) {p : Int} (h3 : 0 ≤ p) (q r : Int) : DrawAt K (upd H d (.lst [.ref sc, .int p, .int q, .int r])) d sc :=
  ⟨⟨p, q, r, upd_same, h3⟩, xs, (but_upd d H _).seq h2⟩
theorem Hd4.ne {H : Hp} {d sc : Addr} (h : Hd4 H d sc) : H d ≠ none := by
  obtain ⟨p, q, r, h, _⟩ := h
  rw [h]
  exact fun z => nomatch z
/-! ### what is new since H0 -/
def nw (H0 H : Hp) : Hp := fun b => match H0 b with
  | none => H b
  | some _ => none
theorem nw_new {H0 H : Hp} {b : Addr} (h : H0 b = none) : nw H0 H b = H b := by
  unfold nw
  rw [h]
theorem nw_some {H0 H : Hp} {b : Addr} {u : HO} (h : nw H0 H b = some u) : H0 b = none ∧ H b = some u := by
  unfold nw at h
  cases e : H0 b with
  | none => rw [e] at h; exact ⟨rfl, h⟩
  | some v => rw [e] at h; cases h
theorem nw_sm (H0 H : Hp) : Same (nw H0 H) H := fun b u z => (nw_some z).2
/-- all of H0 stands in H -/
def Gro (H0 H : Hp) : Prop := ∀ b, H b = none → H0 b = none
theorem Gro.refl (H : Hp) : Gro H H := fun _ h => h
theorem Gro.trans {H0 H1 H2 : Hp} (a : Gro H0 H1) (b : Gro H1 H2) : Gro H0 H2 := fun c h => a c (b c h)
theorem gro_sm {H0 H : Hp} (e : Same H0 H) : Gro H0 H := fun b h => e.free h
theorem gro_upd {H : Hp} {p : Addr} {o : HO} : Gro H (upd H p o) := fun b h => by
  by_cases hb : b = p
  · rw [hb, upd_same] at h
    cases h
  · rwa [upd_ne hb] at h
theorem gro_but {d : Addr} {H0 H : Hp} (e : But d H0 H) (hd : H d ≠ none) : Gro H0 H := fun b h => by
  by_cases hb : b = d
  · rw [hb] at h
    exact absurd h hd
  · cases z : H0 b with
    | none => rfl
    | some u =>
      rw [e.get hb z] at h
      cases h
theorem nw_but {d : Addr} {H0 H H' : Hp} (e : But d H H') (h0 : H0 d ≠ none) : Same (nw H0 H) (nw H0 H') := fun b u z => by
  obtain ⟨z1, z2⟩ := nw_some z
  rw [nw_new z1]
  exact e.get (fun q => h0 (by rw [← q]; exact z1)) z2
theorem nw_keep {H0 H H' : Hp} (e : Same H H') : Same (nw H0 H) (nw H0 H') := fun b u z => by
  obtain ⟨z1, z2⟩ := nw_some z
  rw [nw_new z1]
  exact e _ _ z2
theorem nw_back {H0 H1 H : Hp} (g : Gro H0 H1) : Same (nw H1 H) (nw H0 H) := fun b u z => by
  obtain ⟨z1, z2⟩ := nw_some z
  rw [nw_new (g _ z1)]
  exact z2
/-- what is new since H1 isn't p, that stood in H1 -/
theorem nw_del {H1 H : Hp} {p : Addr} (h : H1 p ≠ none) : Same (nw H1 H) (del (nw H1 H) p) := fun b u z => by
  rw [del_ne fun q => h (by rw [← q]; exact (nw_some z).1)]
  exact z
theorem del_mono {p : Addr} {H H' : Hp} (e : Same H H') : Same (del H p) (del H' p) := but_sm e
section
variable {P : Program} {w : World} {K : PySem.W.Frag} {mg : Str → Option Value} {base : Heap}
def spBegin (K : PySem.W.Frag) : Sp := fun vs H Q _ => match vs with
  | [x] => ∃ (a : Addr) (xs : List Int), x = .ref a ∧ SqL K H a (xs.map V.int) ∧ ∀ d sc H', Same H H' → H d = none → DrawAt K H' d sc → Q (.ref d) H'
  | _ => False
theorem sc_law_begin : FnScope ["_law_script"] ["_law_script"] (defScope s_law_begin) := ⟨rfl, rfl, rfl, by decide +kernel, rfl, by decide +kernel, by decide +kernel⟩
theorem c_law_begin (T : Top w K mg) : Cal P w K mg base CX0 1 "_law_begin" (spBegin K) := by
  refine cal_0 (f_law_begin T) (g_law_begin T) sc_law_begin (fun _ _ _ _ _ _ us hl => match us, hl with | [_], _ => rfl) (fun vs H Q E h => match vs, h with | [_], _ => rfl) (fun cdv A outer s H vs Q E hr h => ?_)
  match vs, h with
  | [x], h =>
  obtain ⟨a, xs, rfl, ha, q⟩ := h
  refine ⟨_, (pss_one (ps_ret (pe_lst (pa_cons (pct (z_list T) call_list_of boot_list (pa_cons (pv 0) pa_nil)) (pa_cons pe_int (pa_cons pe_int (pa_cons pe_int pa_nil))))))), ?_⟩
  refine ⟨_, rfl, a, _, rfl, .inl ha, fun sc hsc => ?_⟩
  refine ⟨(by show 4 ≤ sizeLine; decide), fun d hd => ?_⟩
  have s1 : Same H (upd H sc (.lst (xs.map V.int))) := smNew1 hsc _
  refine q d sc _ (smNew s1 hd _) (s1.free hd) ⟨⟨0, 0, 7, upd_same, Int.le_refl 0⟩, xs, ?_⟩
  refine SqL.of ?_
  have hne : sc ≠ d := fun e => by
    rw [← e, upd_same] at hd
    cases hd
  rw [del_ne hne, upd_ne hne]
  exact upd_same
/-! ### _law_draw -/
def spDraw (K : PySem.W.Frag) : Sp := fun vs H Q _ => match vs with
  | [x, y] => ∃ d sc m, x = .ref d ∧ y = .int m ∧ DrawAt K H d sc ∧ 0 < m ∧ m < 1000000 ∧ ∀ r H', 0 ≤ r → r < m → But d H H' → DrawAt K H' d sc → Q (.int r) H'
  | _ => False
theorem sc_law_draw : FnScope ["_law_draws", "_law_many", "_law_cell", "_law_found"] ["_law_draws", "_law_many"] (defScope s_law_draw) := ⟨rfl, rfl, rfl, by decide +kernel, rfl, by decide +kernel, by decide +kernel⟩
theorem c_law_draw (T : Top w K mg) : Cal P w K mg base CX0 1 "_law_draw" (spDraw K) := by
  refine cal_0 (f_law_draw T) (g_law_draw T) sc_law_draw (fun _ _ _ _ _ _ us hl => match us, hl with | [_, _], _ => rfl) (fun vs H Q E h => match vs, h with | [_, _], _ => rfl) (fun cdv A outer s H vs Q E hr h => ?_)
  match vs, h with
  | [x, y], h =>
  obtain ⟨d, sc, m, rfl, rfl, ⟨⟨p, q0, r, hd, hp⟩, xs, hs⟩, m0, m1, q⟩ := h
  refine ⟨_, (pss_cons (ps_if (pt_cmpR op_eq (pe_ix ix_list (pv 0) pe_int (fun _ _ => rfl)) pe_int (nomark _))
      (pss_one (ps_if (pt_cmpR op_lt (pe_ix ix_list (pv 0) pe_int (fun _ _ => rfl)) (pcb (z_len T) call_len_seq boot_len (pa_cons (pe_ix ix_list (pv 0) pe_int (fun _ _ => rfl)) pa_nil)) (nomark _))
      (pss_cons (ps_set (i := 2) sc_law_draw.nd rfl (Or.inl rfl) (pe_ix ix_list (pe_ix ix_list (pv 0) pe_int (fun _ _ => rfl)) (pe_ix ix_list (pv 0) pe_int (fun _ _ => rfl)) (fun _ _ => rfl)))
    (pss_cons (ps_asg (pe_op op_add (pe_ix ix_list (pv 0) pe_int (fun _ _ => rfl)) pe_int) (pg_sub (pv 0) pe_int set_list))
    (pss_one (ps_if (pt_cmpR op_ge (pv 2) (pe_op op_pow pe_int pe_int) (nomark _))
      (pss_one (ps_asg (pv 2) (pg_sub (pv 0) pe_int set_list)))
      (pss_one (ps_asg (pe_op op_mod (pct (z_int T) call_int1 boot_int (pa_cons (pe_op op_add (pe_op op_add (pe_op op_mul (pe_ix ix_list (pv 0) pe_int (fun _ _ => rfl)) pe_int) (pe_op op_mul (pv 2) pe_int)) pe_int) pa_nil)) pe_int) (pg_sub (pv 0) pe_int set_list)))))))
      (pss_one (ps_asg (pe_op op_mod (pct (z_int T) call_int1 boot_int (pa_cons (pe_op op_add (pe_op op_mul (pe_ix ix_list (pv 0) pe_int (fun _ _ => rfl)) pe_int) pe_int) pa_nil)) pe_int) (pg_sub (pv 0) pe_int set_list)))))
      pss_nil)
    (pss_cons (ps_if (pt_cmpR op_gt (pe_ix ix_list (pv 0) pe_int (fun _ _ => rfl)) pe_int (nomark _))
      (pss_cons (ps_set (i := 3) sc_law_draw.nd rfl (Or.inl rfl) (pe_op op_mod (pct (z_int T) call_int1 boot_int (pa_cons (pe_ix ix_list (pv 0) pe_int (fun _ _ => rfl)) pa_nil)) (pv 1)))
    (pss_cons (ps_asg (pe_op op_fdiv (pe_ix ix_list (pv 0) pe_int (fun _ _ => rfl)) (pv 1)) (pg_sub (pv 0) pe_int set_list))
    (pss_one (ps_ret (pv 3)))))
      pss_nil)
    (pss_one (ps_ret (pe_op op_mod (pe_op op_mod (pct (z_int T) call_int1 boot_int (pa_cons (pe_op op_mul (pe_ix ix_list (pv 0) pe_int (fun _ _ => rfl)) pe_int) pa_nil)) pe_int) (pv 1)))))), ?_⟩
  have hs0 : SqL K H sc (xs.map V.int) := (del_sm H d).seq hs
  refine ⟨_, rfl, _, _, _, _, rfl, rfl, SqL.of hd, at2, rfl, _, rfl, ?_⟩
  refine ifB (fun hq => ?_) (fun hq => ?_)
  · refine ⟨_, rfl, _, _, _, _, rfl, rfl, SqL.of hd, at1, ?_⟩
    refine ⟨_, rfl, _, _, _, _, rfl, rfl, SqL.of hd, at0, _, _, rfl, .inl hs0, ?_⟩
    refine ⟨_, _, rfl, rfl, _, rfl, ?_⟩
    refine ifB (fun hl => ?_) (fun hl => ?_)
    · have hl1 : p < ((xs.map V.int).length : Nat) := of_decide_eq_true hl
      rw [List.length_map] at hl1
      obtain ⟨k, rfl⟩ : ∃ k : Nat, p = k := ⟨p.toNat, by omega⟩
      have hk : k < xs.length := by omega
      -- the cell
      refine ⟨_, rfl, _, _, _, _, rfl, rfl, SqL.of hd, at0, ?_⟩
      refine ⟨_, rfl, _, _, _, _, rfl, rfl, SqL.of hd, at1, ?_⟩
      refine ⟨_, _, _, V.int xs[k], rfl, rfl, hs0, atI_nat (by rw [List.getElem?_map, List.getElem?_eq_getElem hk]; rfl), ?_⟩
      -- the place
      refine ⟨_, rfl, _, _, _, _, rfl, rfl, SqL.of hd, at1, ?_⟩
      refine ⟨_, _, rfl, rfl, ?_⟩
      refine ⟨_, rfl, d, _, _, 1, rfl, rfl, hd, rfl, ?_⟩
      obtain ⟨H1, e1, hd1, hs1, bt1⟩ : ∃ H1, H1 = upd H d (.lst [.ref sc, .int ((k : Int) + 1), .int q0, .int r]) ∧ H1 d = some (.lst [.ref sc, .int ((k : Int) + 1), .int q0, .int r]) ∧ SqL K (del H1 d) sc (xs.map V.int) ∧ But d H H1 := ⟨_, rfl, upd_same, (but_upd d H _).seq hs, but_upd d H _⟩
      have e1' : upd H d (.lst ([V.ref sc, .int k, .int q0, .int r].set 1 (.int ((k : Int) + 1)))) = H1 := e1.symm
      rw [e1']
      have hp2 : (0 : Int) ≤ (k : Int) + 1 := by omega
      refine ⟨_, rfl, _, _, rfl, rfl, ⟨by decide, by decide, by decide⟩, ?_⟩
      refine ⟨_, _, rfl, rfl, _, rfl, ?_⟩
      refine ifB (fun hc => ?_) (fun hc => ?_)
      · refine ⟨_, rfl, _, rfl, d, _, _, 2, rfl, rfl, hd1, rfl, ?_⟩
        obtain ⟨H2, e2, hd2, hs2, bt⟩ : ∃ H2, H2 = upd H1 d (.lst [.ref sc, .int ((k : Int) + 1), .int xs[k], .int r]) ∧ H2 d = some (.lst [.ref sc, .int ((k : Int) + 1), .int xs[k], .int r]) ∧ SqL K (del H2 d) sc (xs.map V.int) ∧ But d H H2 := ⟨_, rfl, upd_same, (but_upd d H1 _).seq hs1, bt1.trans (but_upd d H1 _)⟩
        have e2' : upd H1 d (.lst ([V.ref sc, .int ((k : Int) + 1), .int q0, .int r].set 2 (.int xs[k]))) = H2 := e2.symm
        rw [e2']
        refine ⟨_, rfl, _, _, _, _, rfl, rfl, SqL.of hd2, at2, _, _, rfl, rfl, _, rfl, ?_⟩
        refine ifB (fun hq2 => ?_) (fun hq2 => ?_)
        · refine ⟨_, rfl, _, _, _, _, rfl, rfl, SqL.of hd2, at2, .inl ⟨_, rfl, ?_⟩⟩
          refine ⟨_, rfl, _, _, rfl, rfl, m0, ?_⟩
          refine ⟨_, rfl, _, _, _, _, rfl, rfl, SqL.of hd2, at2, ?_⟩
          refine ⟨_, rfl, _, _, rfl, rfl, ⟨m0, by omega⟩, ?_⟩
          refine ⟨_, rfl, d, _, _, 2, rfl, rfl, hd2, rfl, ?_⟩
          refine ⟨_, rfl, ?_⟩
          exact q _ _ (Int.emod_nonneg _ (by omega)) (Int.emod_lt_of_pos _ m0) (bt.trans (but_upd d _ _)) (DrawAt.set hs2 hp2 _ _)
        · refine ⟨_, rfl, _, _, _, _, rfl, rfl, SqL.of hd2, at3, ?_⟩
          refine ⟨_, _, rfl, rfl, .inr (by decide), .inl ⟨_, rfl, ?_⟩⟩
          refine ⟨_, _, rfl, rfl, (by show (0 : Int) < _; decide), ?_⟩
          refine ⟨_, rfl, _, _, rfl, rfl, m0, ?_⟩
          exact q _ _ (Int.emod_nonneg _ (by omega)) (Int.emod_lt_of_pos _ m0) bt ⟨⟨_, _, _, hd2, hp2⟩, _, hs2⟩
      · refine ⟨_, rfl, _, _, _, _, rfl, rfl, SqL.of hd1, at3, ?_⟩
        refine ⟨_, _, rfl, rfl, .inr (by decide), ?_⟩
        refine ⟨_, rfl, _, _, rfl, rfl, .inr (by decide), ?_⟩
        refine ⟨_, _, rfl, rfl, _, _, rfl, rfl, .inl ⟨_, rfl, ?_⟩⟩
        refine ⟨_, _, rfl, rfl, (by show (0 : Int) < _; decide), ?_⟩
        refine ⟨_, rfl, d, _, _, 3, rfl, rfl, hd1, rfl, ?_⟩
        obtain ⟨H2, e2, hd2, hs2, bt⟩ : ∃ H2, H2 = upd H1 d (.lst [.ref sc, .int ((k : Int) + 1), .int q0, .int ((r * 48271 + xs[k] * 69621 + 11) % 2147483647)]) ∧ H2 d = some (.lst [.ref sc, .int ((k : Int) + 1), .int q0, .int ((r * 48271 + xs[k] * 69621 + 11) % 2147483647)]) ∧ SqL K (del H2 d) sc (xs.map V.int) ∧ But d H H2 := ⟨_, rfl, upd_same, (but_upd d H1 _).seq hs1, bt1.trans (but_upd d H1 _)⟩
        have e2' : upd H1 d (.lst ([V.ref sc, .int ((k : Int) + 1), .int q0, .int r].set 3 (.int ((r * 48271 + xs[k] * 69621 + 11) % 2147483647)))) = H2 := e2.symm
        rw [e2']
        refine ⟨_, rfl, _, _, _, _, rfl, rfl, SqL.of hd2, at2, _, _, rfl, rfl, _, rfl, ?_⟩
        refine ifB (fun hq2 => ?_) (fun hq2 => ?_)
        · refine ⟨_, rfl, _, _, _, _, rfl, rfl, SqL.of hd2, at2, .inl ⟨_, rfl, ?_⟩⟩
          refine ⟨_, rfl, _, _, rfl, rfl, m0, ?_⟩
          refine ⟨_, rfl, _, _, _, _, rfl, rfl, SqL.of hd2, at2, ?_⟩
          refine ⟨_, rfl, _, _, rfl, rfl, ⟨m0, by omega⟩, ?_⟩
          refine ⟨_, rfl, d, _, _, 2, rfl, rfl, hd2, rfl, ?_⟩
          refine ⟨_, rfl, ?_⟩
          exact q _ _ (Int.emod_nonneg _ (by omega)) (Int.emod_lt_of_pos _ m0) (bt.trans (but_upd d _ _)) (DrawAt.set hs2 hp2 _ _)
        · refine ⟨_, rfl, _, _, _, _, rfl, rfl, SqL.of hd2, at3, ?_⟩
          refine ⟨_, _, rfl, rfl, .inr (by decide), .inl ⟨_, rfl, ?_⟩⟩
          refine ⟨_, _, rfl, rfl, (by show (0 : Int) < _; decide), ?_⟩
          refine ⟨_, rfl, _, _, rfl, rfl, m0, ?_⟩
          exact q _ _ (Int.emod_nonneg _ (by omega)) (Int.emod_lt_of_pos _ m0) bt ⟨⟨_, _, _, hd2, hp2⟩, _, hs2⟩
    · refine ⟨_, rfl, _, _, _, _, rfl, rfl, SqL.of hd, at3, ?_⟩
      refine ⟨_, _, rfl, rfl, .inr (by decide), ?_⟩
      refine ⟨_, _, rfl, rfl, .inl ⟨_, rfl, ?_⟩⟩
      refine ⟨_, _, rfl, rfl, (by show (0 : Int) < _; decide), ?_⟩
      refine ⟨_, rfl, d, _, _, 3, rfl, rfl, hd, rfl, ?_⟩
      have hp2 := hp
      obtain ⟨H2, e2, hd2, hs2, bt⟩ : ∃ H2, H2 = upd H d (.lst [.ref sc, .int p, .int q0, .int ((r * 48271 + 7) % 2147483647)]) ∧ H2 d = some (.lst [.ref sc, .int p, .int q0, .int ((r * 48271 + 7) % 2147483647)]) ∧ SqL K (del H2 d) sc (xs.map V.int) ∧ But d H H2 := ⟨_, rfl, upd_same, (but_upd d H _).seq hs, but_upd d H _⟩
      have e2' : upd H d (.lst ([V.ref sc, .int p, .int q0, .int r].set 3 (.int ((r * 48271 + 7) % 2147483647)))) = H2 := e2.symm
      rw [e2']
      refine ⟨_, rfl, _, _, _, _, rfl, rfl, SqL.of hd2, at2, _, _, rfl, rfl, _, rfl, ?_⟩
      refine ifB (fun hq2 => ?_) (fun hq2 => ?_)
      · refine ⟨_, rfl, _, _, _, _, rfl, rfl, SqL.of hd2, at2, .inl ⟨_, rfl, ?_⟩⟩
        refine ⟨_, rfl, _, _, rfl, rfl, m0, ?_⟩
        refine ⟨_, rfl, _, _, _, _, rfl, rfl, SqL.of hd2, at2, ?_⟩
        refine ⟨_, rfl, _, _, rfl, rfl, ⟨m0, by omega⟩, ?_⟩
        refine ⟨_, rfl, d, _, _, 2, rfl, rfl, hd2, rfl, ?_⟩
        refine ⟨_, rfl, ?_⟩
        exact q _ _ (Int.emod_nonneg _ (by omega)) (Int.emod_lt_of_pos _ m0) (bt.trans (but_upd d _ _)) (DrawAt.set hs2 hp2 _ _)
      · refine ⟨_, rfl, _, _, _, _, rfl, rfl, SqL.of hd2, at3, ?_⟩
        refine ⟨_, _, rfl, rfl, .inr (by decide), .inl ⟨_, rfl, ?_⟩⟩
        refine ⟨_, _, rfl, rfl, (by show (0 : Int) < _; decide), ?_⟩
        refine ⟨_, rfl, _, _, rfl, rfl, m0, ?_⟩
        exact q _ _ (Int.emod_nonneg _ (by omega)) (Int.emod_lt_of_pos _ m0) bt ⟨⟨_, _, _, hd2, hp2⟩, _, hs2⟩
  · have hd2 := hd
    have hs2 := hs
    have hp2 := hp
    have bt := But.refl d H
    refine ⟨_, rfl, _, _, _, _, rfl, rfl, SqL.of hd2, at2, _, _, rfl, rfl, _, rfl, ?_⟩
    refine ifB (fun hq2 => ?_) (fun hq2 => ?_)
    · refine ⟨_, rfl, _, _, _, _, rfl, rfl, SqL.of hd2, at2, .inl ⟨_, rfl, ?_⟩⟩
      refine ⟨_, rfl, _, _, rfl, rfl, m0, ?_⟩
      refine ⟨_, rfl, _, _, _, _, rfl, rfl, SqL.of hd2, at2, ?_⟩
      refine ⟨_, rfl, _, _, rfl, rfl, ⟨m0, by omega⟩, ?_⟩
      refine ⟨_, rfl, d, _, _, 2, rfl, rfl, hd2, rfl, ?_⟩
      refine ⟨_, rfl, ?_⟩
      exact q _ _ (Int.emod_nonneg _ (by omega)) (Int.emod_lt_of_pos _ m0) (bt.trans (but_upd d _ _)) (DrawAt.set hs2 hp2 _ _)
    · refine ⟨_, rfl, _, _, _, _, rfl, rfl, SqL.of hd2, at3, ?_⟩
      refine ⟨_, _, rfl, rfl, .inr (by decide), .inl ⟨_, rfl, ?_⟩⟩
      refine ⟨_, _, rfl, rfl, (by show (0 : Int) < _; decide), ?_⟩
      refine ⟨_, rfl, _, _, rfl, rfl, m0, ?_⟩
      exact q _ _ (Int.emod_nonneg _ (by omega)) (Int.emod_lt_of_pos _ m0) bt ⟨⟨_, _, _, hd2, hp2⟩, _, hs2⟩
end
end RM

set_option Elab.async false
set_option linter.all false
set_option maxRecDepth 100000
set_option maxHeartbeats 2000000
/-! states that changes lead to -/
namespace RM
open PySem PySem.Spec PyProof.Rows L2
/-- the values behind a change -/
def stepS (ks : List Str) (g : WM) (vs : List Int) : List Int := (ks.zip vs).map fun q => (wGet g q.1).getD q.2
theorem stepS_len {ks : List Str} {g : WM} {vs : List Int} (h : vs.length = ks.length) : (stepS ks g vs).length = ks.length := by
  unfold stepS
  rw [List.length_map, List.length_zip]
  omega
theorem zip_keys {ks : List Str} {vs : List Int} (h : vs.length = ks.length) : wKeys (ks.zip vs) = ks := by
  unfold wKeys
  exact List.map_fst_zip (by omega)
theorem zip_vals {ks : List Str} {vs : List Int} (h : vs.length = ks.length) : wVals (ks.zip vs) = vs := by
  unfold wVals
  exact List.map_snd_zip (by omega)
theorem zip_self (m : WM) : (wKeys m).zip (wVals m) = m := by
  induction m with
  | nil => rfl
  | cons q r ih =>
    show (q.1, q.2) :: (wKeys r).zip (wVals r) = _
    rw [ih]
theorem vals_over {ks : List Str} {vs : List Int} {g : WM} (hn : ks.Nodup) (hl : vs.length = ks.length) (gn : (wKeys g).Nodup) (sub : ∀ k ∈ wKeys g, k ∈ ks) : wVals (wOver (ks.zip vs) g) = stepS ks g vs := by
  have kz := zip_keys hl
  have n0 : (wKeys (ks.zip vs)).Nodup := by rw [kz]; exact hn
  have kk : wKeys (wOver (ks.zip vs) g) = ks := by rw [wKeys_over (by rw [kz]; exact sub), kz]
  have e := w_ext (nodup_over n0 g)
  rw [kk] at e
  rw [e]
  unfold wVals stepS
  rw [List.map_map]
  have key : ∀ l : WM, (∀ q ∈ l, q ∈ ks.zip vs) → (wKeys l).map (fun k => (wGet (wOver (ks.zip vs) g) k).getD 0) = l.map fun q => (wGet g q.1).getD q.2 := by
    intro l
    induction l with
    | nil => intro _; rfl
    | cons q r ih =>
      intro h
      have hq := h q List.mem_cons_self
      show (wGet (wOver (ks.zip vs) g) q.1).getD 0 :: _ = _
      rw [wGet_over gn, wGet_mem n0 hq]
      show ((wGet g q.1).or (some q.2)).getD 0 :: _ = (wGet g q.1).getD q.2 :: _
      have : ((wGet g q.1).or (some q.2)).getD 0 = (wGet g q.1).getD q.2 := by cases wGet g q.1 <;> rfl
      rw [this]
      exact congrArg _ (ih fun x hx => h x (List.mem_cons_of_mem _ hx))
  have := key (ks.zip vs) fun _ h => h
  rw [kz] at this
  exact this
/-- what the changes add, from one state on -/
def grow (ks : List Str) (cs : List WM) (l : List (List Int)) (v : List Int) : List (List Int) := cs.foldl (fun l g => if stepS ks g v ∈ l then l else l ++ [stepS ks g v]) l
/-- what is found behind n states -/
def lev (ks : List Str) (cs : List WM) (s : List Int) : Nat → List (List Int)
  | 0 => [s]
  | n + 1 => match (lev ks cs s n)[n]? with
    | some v => grow ks cs (lev ks cs s n) v
    | none => lev ks cs s n
section
variable {ks : List Str} {cs : List WM} {s v : List Int} {l : List (List Int)} {n : Nat}
theorem grow_take {i : Nat} {g : WM} (h : cs[i]? = some g) : grow ks (cs.take (i + 1)) l v = if stepS ks g v ∈ grow ks (cs.take i) l v then grow ks (cs.take i) l v else grow ks (cs.take i) l v ++ [stepS ks g v] := by
  unfold grow
  rw [List.take_add_one, h, List.foldl_append]
  rfl
theorem grow_pre : ∃ t, grow ks cs l v = l ++ t := by
  induction cs generalizing l with
  | nil => exact ⟨[], (List.append_nil l).symm⟩
  | cons g r ih =>
    show ∃ t, grow ks r (if stepS ks g v ∈ l then l else l ++ [stepS ks g v]) v = l ++ t
    by_cases h : stepS ks g v ∈ l
    · rw [if_pos h]
      exact ih
    · rw [if_neg h]
      obtain ⟨t, e⟩ := ih (l := l ++ [stepS ks g v])
      exact ⟨stepS ks g v :: t, by rw [e, List.append_assoc]; rfl⟩
theorem grow_le : l.length ≤ (grow ks cs l v).length := by
  obtain ⟨t, e⟩ := grow_pre (ks := ks) (cs := cs) (l := l) (v := v)
  rw [e, List.length_append]
  omega
theorem grow_part (i : Nat) : (grow ks (cs.take i) l v).length ≤ (grow ks cs l v).length := by
  have : grow ks cs l v = grow ks (cs.drop i) (grow ks (cs.take i) l v) v := by
    unfold grow
    rw [← List.foldl_append, List.take_append_drop]
  rw [this]
  exact grow_le
theorem lev_pre : ∃ t, lev ks cs s (n + 1) = lev ks cs s n ++ t := by
  show ∃ t, (match (lev ks cs s n)[n]? with | some v => grow ks cs (lev ks cs s n) v | none => lev ks cs s n) = _
  cases (lev ks cs s n)[n]? with
  | none => exact ⟨[], (List.append_nil _).symm⟩
  | some v => exact grow_pre
theorem lev_le : (lev ks cs s n).length ≤ (lev ks cs s (n + 1)).length := by
  obtain ⟨t, e⟩ := lev_pre (ks := ks) (cs := cs) (s := s) (n := n)
  rw [e, List.length_append]
  omega
theorem lev_stop (h : (lev ks cs s n).length ≤ n) : ∀ k, lev ks cs s (n + k) = lev ks cs s n
  | 0 => rfl
  | k + 1 => by
    have ih := lev_stop h k
    show (match (lev ks cs s (n + k))[n + k]? with | some v => grow ks cs (lev ks cs s (n + k)) v | none => lev ks cs s (n + k)) = _
    rw [ih, List.getElem?_eq_none (by omega)]
theorem lev_mono {m : Nat} (h : n ≤ m) : (lev ks cs s n).length ≤ (lev ks cs s m).length := by
  obtain ⟨k, rfl⟩ : ∃ k, m = n + k := ⟨m - n, by omega⟩
  clear h
  induction k with
  | zero => exact Nat.le_refl _
  | succ k ih => exact Nat.le_trans ih lev_le
theorem lev_pos : 1 ≤ (lev ks cs s n).length := Nat.le_trans (Nat.le_refl 1) (lev_mono (n := 0) (Nat.zero_le n))
theorem grow_nodup (h : l.Nodup) : (grow ks cs l v).Nodup := by
  induction cs generalizing l with
  | nil => exact h
  | cons g r ih =>
    show (grow ks r (if stepS ks g v ∈ l then l else l ++ [stepS ks g v]) v).Nodup
    by_cases e : stepS ks g v ∈ l
    · rw [if_pos e]
      exact ih h
    · rw [if_neg e]
      refine ih (List.nodup_append.mpr ⟨h, by simp, fun x hx y hy z => ?_⟩)
      rw [List.mem_singleton.mp hy] at z
      exact e (z ▸ hx)
theorem lev_nodup : ∀ n, (lev ks cs s n).Nodup
  | 0 => by simp [lev]
  | n + 1 => by
    show (match (lev ks cs s n)[n]? with | some v => grow ks cs (lev ks cs s n) v | none => lev ks cs s n).Nodup
    cases (lev ks cs s n)[n]? with
    | none => exact lev_nodup n
    | some v => exact grow_nodup (lev_nodup n)
/-- what holds of the first state and behind each change holds of all -/
theorem grow_all {Pr : List Int → Prop} (hl : ∀ x ∈ l, Pr x) (hv : ∀ g ∈ cs, Pr (stepS ks g v)) : ∀ x ∈ grow ks cs l v, Pr x := by
  induction cs generalizing l with
  | nil => exact hl
  | cons g r ih =>
    refine ih (l := if stepS ks g v ∈ l then l else l ++ [stepS ks g v]) (fun x hx => ?_) fun g' hg' => hv g' (List.mem_cons_of_mem _ hg')
    by_cases e : stepS ks g v ∈ l
    · rw [if_pos e] at hx
      exact hl x hx
    · rw [if_neg e] at hx
      rcases List.mem_append.mp hx with h | h
      · exact hl x h
      · rw [List.mem_singleton.mp h]
        exact hv g List.mem_cons_self
theorem lev_all {Pr : List Int → Prop} (h0 : Pr s) (hs : ∀ g ∈ cs, ∀ x, Pr x → Pr (stepS ks g x)) : ∀ n, ∀ x ∈ lev ks cs s n, Pr x
  | 0, x, hx => by
    rw [show lev ks cs s 0 = [s] from rfl] at hx
    rw [List.mem_singleton.mp hx]
    exact h0
  | n + 1, x, hx => by
    have ih := lev_all h0 hs n
    have hx' : x ∈ (match (lev ks cs s n)[n]? with | some v => grow ks cs (lev ks cs s n) v | none => lev ks cs s n) := hx
    cases e : (lev ks cs s n)[n]? with
    | none => rw [e] at hx'; exact ih x hx'
    | some v =>
      rw [e] at hx'
      exact grow_all ih (fun g hg => hs g hg v (ih v (List.mem_of_getElem? e))) x hx'
/-- two searches that stop answer alike: one at 16, one at 100 -/
theorem lev_same {n m : Nat} (hn : (lev ks cs s n).length ≤ n) (hm : (lev ks cs s m).length ≤ m) : lev ks cs s n = lev ks cs s m := by
  rcases Nat.le_total n m with h | h
  · obtain ⟨k, rfl⟩ : ∃ k, m = n + k := ⟨m - n, by omega⟩
    exact (lev_stop hn k).symm
  · obtain ⟨k, rfl⟩ : ∃ k, n = m + k := ⟨n - m, by omega⟩
    exact lev_stop hm k
end
/-! ### states as data -/
def stD (s : List Int) : PyData := .tuple (s.map .int)
def stL (s : List Int) : PyData := .list (s.map .int)
theorem eqv_ints : ∀ a b : List Int, PyData.eqvAll (a.map .int) (b.map .int) = decide (a = b)
  | [], [] => rfl
  | [], _ :: _ => rfl
  | _ :: _, [] => rfl
  | x :: a, y :: b => by
    rw [List.map_cons, List.map_cons, PyData.eqvAll, eqv_ints a b]
    show (x == y && decide (a = b)) = decide (x :: a = y :: b)
    rw [Bool.eq_iff_iff, Bool.and_eq_true, beq_iff_eq, decide_eq_true_iff, decide_eq_true_iff, List.cons.injEq]
theorem any_st (l : List (List Int)) (s : List Int) : ((l.map stD).any fun z => PyData.eqv z (stD s)) = decide (s ∈ l) := by
  rw [Bool.eq_iff_iff, List.any_eq_true, decide_eq_true_iff]
  constructor
  · rintro ⟨z, hz, e⟩
    obtain ⟨x, hx, rfl⟩ := List.mem_map.mp hz
    have e' : PyData.eqvAll (x.map .int) (s.map .int) = true := e
    rw [eqv_ints] at e'
    rw [← of_decide_eq_true e']
    exact hx
  · intro h
    exact ⟨stD s, List.mem_map.mpr ⟨s, h, rfl⟩, by show PyData.eqvAll _ _ = true; rw [eqv_ints]; exact decide_eq_true rfl⟩
theorem any_sl (l : List (List Int)) (s : List Int) : ((l.map stL).any fun z => PyData.eqv z (stL s)) = decide (s ∈ l) := by
  rw [Bool.eq_iff_iff, List.any_eq_true, decide_eq_true_iff]
  constructor
  · rintro ⟨z, hz, e⟩
    obtain ⟨x, hx, rfl⟩ := List.mem_map.mp hz
    have e' : PyData.eqvAll (x.map .int) (s.map .int) = true := e
    rw [eqv_ints] at e'
    rw [← of_decide_eq_true e']
    exact hx
  · intro h
    exact ⟨stL s, List.mem_map.mpr ⟨s, h, rfl⟩, by show PyData.eqvAll _ _ = true; rw [eqv_ints]; exact decide_eq_true rfl⟩
theorem ints_lay : ∀ s : List Int, PyData.canLayAll0 (s.map .int) = true
  | [] => rfl
  | i :: r => by
    rw [List.map_cons, PyData.canLayAll0, ints_lay r]
    rfl
theorem ints_dep : ∀ s : List Int, PyData.depthAll (s.map .int) ≤ 1
  | [] => by simp [PyData.depthAll]
  | i :: r => by
    have := ints_dep r
    simp only [List.map_cons, PyData.depthAll, PyData.depth]
    omega
theorem st_dep (s : List Int) : (stD s).depth ≤ 2 := by
  show PyData.depthAll (s.map .int) + 1 ≤ 2
  have := ints_dep s
  omega
theorem sl_dep (s : List Int) : (stL s).depth ≤ 2 := by
  show PyData.depthAll (s.map .int) + 1 ≤ 2
  have := ints_dep s
  omega
theorem all_lay {f : List Int → PyData} (h : ∀ s, (f s).canLay0 = true) : ∀ l : List (List Int), PyData.canLayAll0 (l.map f) = true
  | [] => rfl
  | s :: r => by
    rw [List.map_cons, PyData.canLayAll0, all_lay h r, h s]
    rfl
theorem all_dep {f : List Int → PyData} (h : ∀ s, (f s).depth ≤ 2) : ∀ l : List (List Int), PyData.depthAll (l.map f) ≤ 2
  | [] => by simp [PyData.depthAll]
  | s :: r => by
    have := all_dep h r
    have := h s
    simp only [List.map_cons, PyData.depthAll]
    omega
theorem st_shaped (s : List Int) : SeqAt.shaped (stD s) = true := by
  unfold SeqAt.shaped
  rw [show (stD s).canLay0 = true from ints_lay s, decide_eq_true (by have := st_dep s; omega)]
  rfl
theorem sl_shaped (s : List Int) : SeqAt.shaped (stL s) = true := by
  unfold SeqAt.shaped
  rw [show (stL s).canLay0 = true from ints_lay s, decide_eq_true (by have := sl_dep s; omega)]
  rfl
theorem sts_shaped (l : List (List Int)) : SeqAt.shaped (.list (l.map stD)) = true := by
  unfold SeqAt.shaped
  rw [show (PyData.list (l.map stD)).canLay0 = true from all_lay (f := stD) (fun s => ints_lay s) l, decide_eq_true (by show PyData.depthAll _ + 1 ≤ _; have := all_dep st_dep l; omega)]
  rfl
theorem sls_shaped (l : List (List Int)) : SeqAt.shaped (.list (l.map stL)) = true := by
  unfold SeqAt.shaped
  rw [show (PyData.list (l.map stL)).canLay0 = true from all_lay (f := stL) (fun s => ints_lay s) l, decide_eq_true (by show PyData.depthAll _ + 1 ≤ _; have := all_dep sl_dep l; omega)]
  rfl
/-! ### one order alone -/
theorem code_inj {B : Int} : ∀ {a b : List Int}, a.length = b.length → _root_.TS.Bd B a → _root_.TS.Bd B b → _root_.TS.code B a = _root_.TS.code B b → a = b
  | [], [], _, _, _, _ => rfl
  | [], _ :: _, h, _, _, _ => by simp at h
  | _ :: _, [], h, _, _, _ => by simp at h
  | x :: a, y :: b, h, ha, hb, e => by
    have hl : a.length = b.length := by simpa using h
    have xy : x = y := by
      rcases Int.lt_trichotomy x y with z | z | z
      · have := _root_.TS.code_lt hl ha.tail hb.tail z
        omega
      · exact z
      · have := _root_.TS.code_lt hl.symm hb.tail ha.tail z
        omega
    subst xy
    have e' : x * B ^ a.length + _root_.TS.code B a = x * B ^ b.length + _root_.TS.code B b := e
    rw [hl] at e'
    rw [code_inj hl ha.tail hb.tail (by omega)]
theorem perm_one {d : Nat} {B : Int} : ∀ {l m : List (List Int)}, l.Perm m → l.Nodup → (∀ x ∈ l, x.length = d ∧ _root_.TS.Bd B x) → l.Pairwise (fun a b => _root_.TS.code B a ≤ _root_.TS.code B b) → m.Pairwise (fun a b => _root_.TS.code B a ≤ _root_.TS.code B b) → l = m
  | [], m, p, _, _, _, _ => by rw [List.nil_perm.mp p]
  | x :: l, [], p, _, _, _, _ => by simpa using p.length_eq
  | x :: l, y :: m, p, n, h, s1, s2 => by
    obtain ⟨a1, a2⟩ := List.pairwise_cons.mp s1
    obtain ⟨b1, b2⟩ := List.pairwise_cons.mp s2
    obtain ⟨c1, c2⟩ := List.nodup_cons.mp n
    have hx := h x List.mem_cons_self
    have hy := h y (p.mem_iff.mpr List.mem_cons_self)
    have le1 : _root_.TS.code B x ≤ _root_.TS.code B y := by
      rcases List.mem_cons.mp (p.mem_iff.mpr (List.mem_cons_self (a := y) (l := m))) with e | e
      · rw [e]; exact Int.le_refl _
      · exact a1 y e
    have le2 : _root_.TS.code B y ≤ _root_.TS.code B x := by
      rcases List.mem_cons.mp (p.mem_iff.mp (List.mem_cons_self (a := x) (l := l))) with e | e
      · rw [e]; exact Int.le_refl _
      · exact b1 x e
    have e : x = y := code_inj (hx.1.trans hy.1.symm) hx.2 hy.2 (Int.le_antisymm le1 le2)
    subst e
    rw [perm_one (List.perm_cons x |>.mp p) c2 (fun z hz => h z (List.mem_cons_of_mem _ hz)) a2 b2]
end RM

set_option Elab.async false
set_option linter.all false
set_option maxRecDepth 100000
set_option maxHeartbeats 4000000
namespace RM
open PySem PySem.Spec PyProof.Rows L2
theorem room65 {k : Nat} {A : Around} (hr : Room k A) : A.units + 65 < cLine := by have := hr.un; omega
theorem zip_mK (m : WM) (us : List Int) : (m.map fun q => (Sum.inr q.1 : Key)).zip (us.map V.int) = mK ((wKeys m).zip us) := by
  induction m generalizing us with
  | nil => rfl
  | cons q r ih =>
    cases us with
    | nil => rfl
    | cons u us =>
      exact congrArg (List.cons ((Sum.inr q.1 : Key), V.int u)) (ih us)
theorem merge_nil {m : WM} (h : (wKeys m).Nodup) : mergeK [] (mK m) = mK m := by
  have := mergeK_w [] m
  rw [wOver_nil h] at this
  exact this
theorem okM_zip {m : WM} {us : List Int} (h : okM m) (l : us.length = m.length) (hu : ∀ u ∈ us, isValue u = true) : okM ((wKeys m).zip us) := by
  refine ⟨fun q hq => ?_, ?_⟩
  · have h1 := List.of_mem_zip hq
    obtain ⟨p, hp, e⟩ := List.mem_map.mp h1.1
    exact ⟨by rw [← e]; exact (h.1 p hp).1, hu _ h1.2⟩
  · show (wKeys _).Nodup
    rw [zip_keys (by rw [l]; exact (List.length_map ..).symm)]
    exact h.2
section
variable {P : Program} {w : World} {K : PySem.W.Frag} {mg : Str → Option Value} {base : Heap}
theorem MapAt.updL {H : Hp} {C p : Addr} {f : Str} {a : Addr} {m : WM} {xs ys : List V} (hp : H p = some (.lst xs)) (h : MapAt H C f a m) : MapAt (upd H p (.lst ys)) C f a m := by
  obtain ⟨dx, q, h1, h2, h3⟩ := h
  refine ⟨dx, q, ?_, ?_, h3⟩
  · rw [upd_ne fun z => by rw [z, hp] at h1; cases h1]
    exact h1
  · rw [upd_ne fun z => by rw [z, hp] at h2; cases h2]
    exact h2
theorem SurAt.updL {H : Hp} {p : Addr} {a : Addr} {m : WM} {xs ys : List V} (hp : H p = some (.lst xs)) (h : SurAt K H a m) : SurAt K (upd H p (.lst ys)) a m := ⟨h.1.updL hp, h.2⟩
theorem dps_ints {H : Hp} : ∀ {s : List Int} {xs : List V}, DpAll K H xs (s.map .int) → xs = s.map V.int
  | [], _, h => DpAll.nil_inv h
  | i :: s, _, h => by
    obtain ⟨v, r, rfl, h1, h2⟩ := DpAll.cons_inv h
    rw [Dp.int_inv h1, dps_ints h2]
    rfl
theorem dp_st {H : Hp} {v : V} {s : List Int} (h : Dp K H v (stD s)) : ∃ t, v = .ref t ∧ SqT K H t (s.map V.int) := by
  obtain ⟨t, xs, rfl, h1, h2⟩ := Dp.tup_inv h
  rw [dps_ints h2] at h1
  exact ⟨t, rfl, h1⟩
theorem ints_dps {H : Hp} : ∀ s : List Int, DpAll K H (s.map V.int) (s.map .int)
  | [] => .nil
  | i :: s => .cons (.int i) (ints_dps s)
theorem st_dp {H : Hp} {t : Addr} {s : List Int} (h : SqT K H t (s.map V.int)) : Dp K H (.ref t) (stD s) := .tup h (ints_dps s)
theorem noL_st (s : List Int) : noL (stD s) = true := by
  show noLs (s.map .int) = true
  induction s with
  | nil => rfl
  | cons i r ih =>
    rw [List.map_cons, noLs, ih]
    rfl
theorem noLs_sts : ∀ l : List (List Int), noLs (l.map stD) = true
  | [] => rfl
  | s :: r => by rw [List.map_cons, noLs, noLs_sts r, noL_st s]; rfl
theorem MapAt.off {H H' : Hp} {C p : Addr} {f : Str} {a : Addr} {m : WM} {xs : List V} (hp : H p = some (.lst xs)) (o : Off p H H') (h : MapAt H C f a m) : MapAt H' C f a m := by
  obtain ⟨dx, q, h1, h2, h3⟩ := h
  exact ⟨dx, q, o _ _ (fun z => by rw [z, hp] at h1; cases h1) h1, o _ _ (fun z => by rw [z, hp] at h2; cases h2) h2, h3⟩
theorem SurAt.off {H H' : Hp} {p a : Addr} {m : WM} {xs : List V} (hp : H p = some (.lst xs)) (o : Off p H H') (h : SurAt K H a m) : SurAt K H' a m := ⟨h.1.off hp o, h.2⟩
theorem ChgAt.off {H H' : Hp} {p a : Addr} {m : WM} {xs : List V} (hp : H p = some (.lst xs)) (o : Off p H H') (h : ChgAt K H a m) : ChgAt K H' a m := ⟨h.1.off hp o, h.2⟩
theorem Off.refl (p : Addr) (H : Hp) : Off p H H := fun _ _ _ h => h
theorem Off.trans {p : Addr} {H H1 H2 : Hp} (a : Off p H H1) (b : Off p H1 H2) : Off p H H2 := fun c u n h => b c u n (a c u n h)
theorem off_sm {p : Addr} {H H' : Hp} (e : Same H H') : Off p H H' := fun b u _ h => e b u h
theorem off_upd {p : Addr} {H : Hp} {o : HO} : Off p H (upd H p o) := fun b u n h => by rw [upd_ne n]; exact h
theorem sqL_off {H H' : Hp} {p a : Addr} {xs : List V} (o : Off p H H') (ne : a ≠ p) (h : SqL K H a xs) : SqL K H' a xs := h.imp (Or.imp (o _ _ ne) fun ⟨q, at_⟩ => ⟨q, o _ _ ne at_⟩) id
theorem sqT_off {H H' : Hp} {p a : Addr} {xs : List V} (o : Off p H H') (ne : a ≠ p) (h : SqT K H a xs) : SqT K H' a xs := h.imp (Or.imp (o _ _ ne) fun ⟨q, at_⟩ => ⟨q, o _ _ ne at_⟩) id
/-- a sequence is walked while the thing at p is changed -/
theorem seqA_off {H : Hp} {a p : Addr} {xs : List V} {R : It → Hp → Prop} (h : SqA K H a xs) (ne : a ≠ p) (q : ∀ J, Walk J xs.length (fun H' => Off p H H') (YAt xs) → R J H) : SeqG K (.ref a) H R := by
  unfold SeqG
  rcases h with h | h
  · exact ⟨a, rfl, .inl ⟨xs, h, q _ (walk_list.mono (fun H' e => sqL_off e ne h) fun i H x H' _ _ y => y)⟩⟩
  · exact ⟨a, rfl, .inr ⟨xs, h, q _ (walk_tup.mono (fun H' e => sqT_off e ne h) fun i H x H' _ _ y => y)⟩⟩
end
end RM

set_option Elab.async false
set_option linter.all false
set_option maxRecDepth 100000
set_option maxHeartbeats 2000000
namespace RM
open PySem PySem.Spec PyProof.Rows L2
theorem cutL_pre (xs : List V) (k : Nat) (h : k ≤ xs.length) : cutV xs none (some (k : Int)) = xs.take k := by
  unfold cutV
  rw [HT.sIx_none, HT.sIx_nat, Nat.min_eq_left h]
  show (xs.drop 0).take (k - 0) = _
  rw [List.drop_zero, Nat.sub_zero]
theorem cutL_post (xs : List V) (k : Nat) (h : k ≤ xs.length) : cutV xs (some (k : Int)) none = xs.drop k := by
  unfold cutV
  rw [HT.sIx_nat, HT.sIx_none, Nat.min_eq_left h]
  rw [List.take_of_length_le (by rw [List.length_drop]; omega)]
end RM

set_option Elab.async false
set_option linter.all false
set_option maxRecDepth 100000
set_option maxHeartbeats 4000000
namespace RM
open PySem PySem.Spec PyProof.Rows L2
theorem drawn_of {r m : Int} (h0 : 0 ≤ r) (h1 : r < m) : ∃ k : Nat, r = k ∧ (k : Int) < m := ⟨r.toNat, by omega, by omega⟩
section
variable {P : Program} {w : World} {K : PySem.W.Frag} {mg : Str → Option Value} {base : Heap}
theorem mk_len (g : WM) : (mK g).length = g.length := List.length_map ..
theorem mk_inj {g g' : WM} (h : mK g = mK g') : g = g' := by
  unfold mK at h
  refine (List.map_inj_right fun x y e => ?_).mp h
  obtain ⟨a, b⟩ := x
  obtain ⟨c, d⟩ := y
  injection e with e1 e2
  injection e1 with e3
  injection e2 with e4
  have e5 : a = c := e3
  have e6 : b = d := e4
  rw [e5, e6]
theorem dk_but {d : Addr} {H H' : Hp} (b : But d H H') (hd : Hd4 H d sc) {c : Addr} {m : List (Key × V)} (h : H c = some (.dK m)) : H' c = some (.dK m) := b.get (fun z => by
  obtain ⟨_, _, _, e, _⟩ := hd
  rw [z, e] at h
  cases h) h
theorem dk_updL {p : Addr} {H : Hp} {xs ys : List V} (hp : H p = some (.lst xs)) {c : Addr} {m : List (Key × V)} (h : H c = some (.dK m)) : (upd H p (.lst ys)) c = some (.dK m) := by
  rw [upd_ne fun z => by rw [z, hp] at h; cases h]
  exact h
theorem sqL_dk {H : Hp} {p a : Addr} {m m' : List (Key × V)} {xs : List V} (hp : H p = some (.dK m)) (h : SqL K H a xs) : SqL K (upd H p (.dK m')) a xs := by
  rcases h with (h | ⟨o, h⟩) | h
  · exact .inl (.inl (by rw [upd_ne fun z => by rw [z, hp] at h; cases h]; exact h))
  · exact .inl (.inr ⟨o, by rw [upd_ne fun z => by rw [z, hp] at h; cases h]; exact h⟩)
  · exact .inr h
theorem DrawAt.dk {H : Hp} {d sc p : Addr} {m m' : List (Key × V)} (h : DrawAt K H d sc) (hp : H p = some (.dK m)) : DrawAt K (upd H p (.dK m')) d sc := by
  obtain ⟨⟨i, j, k, h1, h2⟩, xs, h3⟩ := h
  have ne : p ≠ d := fun z => by rw [z, h1] at hp; cases hp
  refine ⟨⟨i, j, k, by rw [upd_ne (Ne.symm ne)]; exact h1, h2⟩, xs, ?_⟩
  have e : del (upd H p (.dK m')) d = upd (del H d) p (.dK m') := by
    funext b
    by_cases hb : b = d
    · rw [hb, del_same, upd_ne (Ne.symm ne), del_same]
    · by_cases hp' : b = p
      · rw [hp', del_ne ne, upd_same, upd_same]
      · rw [del_ne hb, upd_ne hp', upd_ne hp', del_ne hb]
  rw [e]
  exact sqL_dk (by rw [del_ne ne]; exact hp) h3
/-- the draws, apart from a list at p that changes -/
structure Draw2 (K : PySem.W.Frag) (H : Hp) (d sc p : Addr) : Prop where
  hd : Hd4 H d sc
  sc : Scr K (del (del H d) p) sc
  ne : p ≠ d
theorem del_del (H : Hp) (d p : Addr) : Same (del (del H d) p) (del H d) := del_sm _ _
theorem Draw2.one {H : Hp} {d sc p : Addr} (h : Draw2 K H d sc p) : DrawAt K H d sc := ⟨h.hd, h.sc.keep (del_del H d p)⟩
theorem Draw2.but {H H' : Hp} {d sc p : Addr} (h : Draw2 K H d sc p) (b : But d H H') (dr : DrawAt K H' d sc) : Draw2 K H' d sc p := ⟨dr.1, h.sc.keep (but_sm b), h.ne⟩
theorem Draw2.keep {H H' : Hp} {d sc p : Addr} (h : Draw2 K H d sc p) (e : Same H H') : Draw2 K H' d sc p := h.but (but_sm e) (h.one.keep e)
theorem Draw2.upd {H : Hp} {d sc p : Addr} (h : Draw2 K H d sc p) (o : HO) : Draw2 K (upd H p o) d sc p := by
  obtain ⟨⟨i, j, k, h1, h2⟩, h3, ne⟩ := h
  refine ⟨⟨i, j, k, by rw [upd_ne (Ne.symm ne)]; exact h1, h2⟩, h3.keep fun b u hb => ?_, ne⟩
  by_cases e : b = p
  · rw [e, del_same] at hb; cases hb
  · by_cases e2 : b = d
    · rw [del_ne e, e2, del_same] at hb; cases hb
    · rw [del_ne e, del_ne e2] at hb ⊢
      rw [upd_ne e]
      exact hb
theorem DrawAt.two {H : Hp} {d sc p : Addr} (h : DrawAt K H d sc) (hp : H p = none) (o : HO) : Draw2 K (upd H p o) d sc p := by
  have ne : p ≠ d := fun z => h.1.ne (by rw [← z]; exact hp)
  refine ⟨h.1.keep (smNew1 hp _), h.2.keep fun b u hb => ?_, ne⟩
  have e2 : b ≠ d := fun z => by rw [z, del_same] at hb; cases hb
  rw [del_ne e2] at hb
  have e : b ≠ p := ne_of_none hb hp
  rw [del_ne e, del_ne e2, upd_ne e]
  exact hb
theorem Draw2.dk {H : Hp} {d sc p c : Addr} {m m' : List (Key × V)} (h : Draw2 K H d sc p) (hc : H c = some (.dK m)) (cp : c ≠ p) : Draw2 K (L2.upd H c (.dK m')) d sc p := by
  obtain ⟨⟨i, j, k, h1, h2⟩, ⟨xs, h3⟩, ne⟩ := h
  have cd : c ≠ d := fun z => by rw [z, h1] at hc; cases hc
  refine ⟨⟨i, j, k, by rw [upd_ne (Ne.symm cd)]; exact h1, h2⟩, ⟨xs, ?_⟩, ne⟩
  have e : del (del (L2.upd H c (.dK m')) d) p = L2.upd (del (del H d) p) c (.dK m') := by
    funext b
    by_cases hb : b = p
    · rw [hb, del_same, upd_ne (Ne.symm cp), del_same]
    · by_cases hd : b = d
      · rw [hd, del_ne (Ne.symm ne), del_same, upd_ne (Ne.symm cd), del_ne (Ne.symm ne), del_same]
      · by_cases hc' : b = c
        · rw [hc', del_ne cp, del_ne cd, upd_same, upd_same]
        · rw [del_ne hb, del_ne hd, upd_ne hc', upd_ne hc', del_ne hb, del_ne hd]
  rw [e]
  exact sqL_dk (by rw [del_ne cp, del_ne cd]; exact hc) h3
def MadeOf (K : PySem.W.Frag) (g : WM) (y : V) (H : Hp) : Prop := ∃ c g', y = .ref c ∧ ChgAt K H c g' ∧ g'.Perm g
theorem made_all {H : Hp} : ∀ {ys : List V} {gs : List WM}, Paired (fun y g => MadeOf K g y H) ys gs → ∃ (cv : List Addr) (cs : List WM), ys = cv.map V.ref ∧ Paired (fun c g => ChgAt K H c g) cv cs ∧ Paired (fun g' g => List.Perm g' g) cs gs
  | _, _, .nil => ⟨[], [], rfl, .nil, .nil⟩
  | _, _, .cons h t => by
    obtain ⟨c, g', rfl, h1, h2⟩ := h
    obtain ⟨cv, cs, rfl, h3, h4⟩ := made_all t
    exact ⟨c :: cv, g' :: cs, rfl, .cons h1 h3, .cons h2 h4⟩
theorem paired_and {α β : Type} {F G : α → β → Prop} : ∀ {l : List α} {m : List β}, Paired F l m → (∀ y ∈ m, ∀ x, F x y → G x y) → Paired G l m
  | _, _, .nil, _ => .nil
  | _, _, .cons h t, k => .cons (k _ List.mem_cons_self _ h) (paired_and t fun y hy x hx => k y (List.mem_cons_of_mem _ hy) x hx)
theorem ChgAt.updL {H : Hp} {p : Addr} {a : Addr} {m : WM} {xs ys : List V} (hp : H p = some (.lst xs)) (h : ChgAt K H a m) : ChgAt K (L2.upd H p (.lst ys)) a m := ⟨h.1.updL hp, h.2⟩
end
end RM

set_option Elab.async false
set_option linter.all false
set_option maxRecDepth 100000
set_option maxHeartbeats 4000000
set_option pp.maxSteps 600
set_option pp.deepTerms false
namespace RM
open PySem PySem.Spec PyProof.Rows L2
abbrev menu6 : List Str := ["url", "port", "mode", "a", "read", "else"]
theorem menu6_ok : ∀ t ∈ List.range 6, ((menu6.drop t ++ menu6.take t).Nodup ∧ (∀ k ∈ menu6.drop t ++ menu6.take t, isWord k = true) ∧ (menu6.drop t ++ menu6.take t).length = 6) := by decide +kernel
theorem but_new {d : Addr} {H H' : Hp} {p : Addr} {o : HO} (b : But d H H') (hp : H p = none) : But d H (upd H' p o) := fun c u hc => by
  have h9 := b c u hc
  by_cases cd : c = d
  · rw [cd, del_same] at hc; cases hc
  · rw [del_ne cd] at hc h9 ⊢
    rw [upd_ne (ne_of_none hc hp)]
    exact h9
theorem paired_andL {α β : Type} {F G : α → β → Prop} : ∀ {l : List α} {m : List β}, Paired F l m → (∀ x ∈ l, ∀ y, F x y → G x y) → Paired G l m
  | _, _, .nil, _ => .nil
  | _, _, .cons h t, k => .cons (k _ List.mem_cons_self _ h) (paired_andL t fun x hx y hy => k x (List.mem_cons_of_mem _ hx) y hy)
theorem len_put' (m : WM) (k : Str) (n : Int) : (wPut m k n).length ≤ m.length + 1 := by
  unfold wPut
  split
  · rw [List.length_map]; omega
  · rw [List.length_append]; exact Nat.le_refl _
section
variable {P : Program} {w : World} {K : PySem.W.Frag} {mg : Str → Option Value} {base : Heap}
/-- right values -/
def okV (vm : WM) : Prop := okM vm ∧ 1 ≤ vm.length ∧ vm.length ≤ 3
def spValues (K : PySem.W.Frag) : Sp := fun vs H Q _ => match vs with
  | [x] => ∃ d sc, x = .ref d ∧ DrawAt K H d sc ∧ ∀ a vm H', But d H H' → DrawAt K H' d sc → H a = none → H' a = some (.dK (mK vm)) → okV vm → Q (.ref a) H'
  | _ => False
def spValuesN (K : PySem.W.Frag) : Sp := fun vs H Q _ => match vs with
  | [x] => ∃ d sc, x = .ref d ∧ DrawAt K H d sc ∧ ∀ a vm H', But d H H' → DrawAt K H' d sc → H a = none → H' a = some (.dK (mK vm)) → okV vm → (∀ k ∈ wKeys vm, k ∈ menu6) → Q (.ref a) H'
  | _ => False
theorem sc_law_values : FnScope ["_law_draws", "_law_menu", "_law_turn", "_law_many", "_law_values_here", "_law_k"] ["_law_draws"] (defScope s_law_values) := ⟨rfl, rfl, rfl, by decide +kernel, rfl, by decide +kernel, by decide +kernel⟩
theorem c_law_valuesN (T : Top w K mg) : Cal P w K mg base CX0 2 "_law_values" (spValuesN K) := by
  refine cal_0 (f_law_values T) (g_law_values T) sc_law_values (fun _ _ _ _ _ _ us hl => match us, hl with | [_], _ => rfl) (fun vs H Q E h => match vs, h with | [_], _ => rfl) (fun cdv A outer s H vs Q E hr h => ?_)
  match vs, h with
  | [x], h =>
  obtain ⟨d, sc, rfl, d0, q⟩ := h
  refine ⟨_, (pss_cons (ps_set (i := 1) sc_law_values.nd rfl (Or.inl rfl) (pe_lst (pa_cons pe_str (pa_cons pe_str (pa_cons pe_str (pa_cons pe_str (pa_cons pe_str (pa_cons pe_str pa_nil))))))))
    (pss_cons (ps_set (i := 2) sc_law_values.nd rfl (Or.inl rfl) (pc (c_law_draw T) hr (pa_cons (pv 0) (pa_cons pe_int pa_nil))))
    (pss_cons (ps_set (i := 3) sc_law_values.nd rfl (Or.inl rfl) (pe_op op_add pe_int (pc (c_law_draw T) hr (pa_cons (pv 0) (pa_cons pe_int pa_nil)))))
    (pss_cons (ps_set (i := 4) sc_law_values.nd rfl (Or.inl rfl) pe_dnewK)
    (pss_cons (ps_for PassesOwn.never rfl (pi_range1 rfl (z_range T) (pa_cons (pv 3) pa_nil)) (pg_name (i := 5) sc_law_values.nd rfl (Or.inl rfl))
      (pss_one (ps_dput (hu_of hr) (pv 4) (pe_ix ix_list (pe_op op_cat (pe_slice sl_list (pv 1) (po_some (pv 2)) po_none) (pe_slice sl_list (pv 1) po_none (po_some (pv 2)))) (pv 5) (fun _ _ => rfl)) (pc (c_law_draw T) hr (pa_cons (pv 0) (pa_cons pe_int pa_nil))) rfl)))
    (pss_one (ps_ret (pv 4)))))))), ?_⟩
  refine ⟨(by show 6 ≤ sizeLine; decide), fun mn hmn => ?_⟩
  have d1 := d0.keep (smNew1 hmn (.lst (menu6.map V.str)))
  have nmn : mn ≠ d := fun z => d0.1.ne (by rw [← z]; exact hmn)
  refine ⟨_, rfl, d, sc, 6, rfl, rfl, d1, by decide, by decide, fun t H2 t0 t1 b2 d2 => ?_⟩
  obtain ⟨t, rfl, ht⟩ := drawn_of t0 t1
  have hm2 := b2.get nmn (upd_same : (upd H mn (.lst (menu6.map V.str))) mn = _)
  refine ⟨_, rfl, d, sc, 3, rfl, rfl, d2, by decide, by decide, fun m H3 m0 m1 b3 d3 => ?_⟩
  obtain ⟨m, rfl, hm⟩ := drawn_of m0 m1
  have hm3 := b3.get nmn hm2
  refine ⟨_, _, rfl, rfl, ?_⟩
  obtain ⟨M1, M2, M3⟩ := menu6_ok t (List.mem_range.mpr (by omega))
  intro vd hvd
  have bH3 : But d H H3 := (but_sm (smNew1 hmn _)).trans (b2.trans b3)
  have nvd0 : H vd = none := gro_but bH3 d3.1.ne vd hvd
  have nvd : vd ≠ d := fun z => d3.1.ne (by rw [← z]; exact hvd)
  have nmv : mn ≠ vd := ne_of_none hm3 hvd
  obtain ⟨ks, eks⟩ : ∃ ks, ks = menu6.drop t ++ menu6.take t := ⟨_, rfl⟩
  rw [← eks] at M1 M2 M3
  refine ⟨_, rfl, 1 + (m : Int), rfl, by omega, by omega, ?_⟩
  refine for_it (walk_range (lo := 0) (n := (1 + (m : Int)).toNat)) (fun i σ H' => DrawAt K H' d sc ∧ But d H H' ∧ H' mn = some (.lst (menu6.map V.str)) ∧ (∃ vm, H' vd = some (.dK (mK vm)) ∧ wKeys vm = ks.take i ∧ ∀ q ∈ vm, 0 ≤ q.2 ∧ q.2 < 2) ∧
    ∃ v3 v5, σ = [some (.ref d), some (.ref mn), some (.int t), v3, some (.ref vd), v5]) ⟨d3.keep (smNew1 hvd _), bH3.trans (but_sm (smNew1 hvd _)), by rw [upd_ne nmv]; exact hm3, ⟨[], upd_same, rfl, fun q hq => by simp at hq⟩, _, _, rfl⟩ (fun _ _ _ _ _ => trivial) ?_ ?_
  · rintro i x σ H4 H5 hi ⟨d4, b4, hm4, ⟨vm, hv4, kv4, bv4⟩, v3, v5, rfl⟩ ⟨rfl, rfl⟩
    have i6 : i < 3 := by omega
    refine ⟨_, rfl, d, sc, 2, rfl, rfl, d4, by decide, by decide, fun n H6 n0 n1 b6 d6 => ?_⟩
    have hv6 := dk_but b6 d4.1 hv4
    have hm6 := b6.get nmn hm4
    refine ⟨_, rfl, _, rfl, _, rfl, _, rfl, mn, _, rfl, SqL.of hm6, fun s1 hs1 => ?_⟩
    have hm7 : (upd H6 s1 (.lst (cutV (menu6.map V.str) (some (t : Int)) none))) mn = some (.lst (menu6.map V.str)) := (smNew1 hs1 _) _ _ hm6
    refine ⟨_, rfl, _, rfl, _, rfl, mn, _, rfl, SqL.of hm7, fun s2 hs2 => ?_⟩
    have s12 : s1 ≠ s2 := fun z => by rw [← z, upd_same] at hs2; cases hs2
    refine ⟨s1, s2, _, _, rfl, rfl, by rw [upd_ne s12]; exact upd_same, upd_same, ?_, fun s3 hs3 => ?_⟩
    · show (cutV (menu6.map V.str) (some (t : Int)) none).length + (cutV (menu6.map V.str) none (some (t : Int))).length ≤ sizeLine
      rw [cutL_post _ _ (by show t ≤ 6; omega), cutL_pre _ _ (by show t ≤ 6; omega), List.length_drop, List.length_take]
      exact Nat.le_of_lt (small1000 (by show 6 - t + min t 6 ≤ 1000; omega))
    · have ecat : cutV (menu6.map V.str) (some (t : Int)) none ++ cutV (menu6.map V.str) none (some (t : Int)) = ks.map V.str := by
        rw [cutL_post _ _ (by show t ≤ 6; omega), cutL_pre _ _ (by show t ≤ 6; omega), eks, List.map_append, List.map_drop, List.map_take]
      have hik : i < ks.length := by omega
      rw [ecat]
      refine ⟨_, rfl, s3, _, _, .str ks[i], rfl, (congrArg V.int (Int.zero_add _)), SqL.of upd_same, atI_nat (by rw [List.getElem?_map, List.getElem?_eq_getElem hik]; rfl), ?_⟩
      have e9 : Same H6 (upd (upd (upd H6 s1 (.lst (cutV (menu6.map V.str) (some (t : Int)) none))) s2 (.lst (cutV (menu6.map V.str) none (some (t : Int))))) s3 (.lst (ks.map V.str))) := smNew (smNew (smNew1 hs1 _) hs2 _) hs3 _
      obtain ⟨H9, eH9⟩ : ∃ H9, H9 = upd (upd (upd H6 s1 (.lst (cutV (menu6.map V.str) (some (t : Int)) none))) s2 (.lst (cutV (menu6.map V.str) none (some (t : Int))))) s3 (.lst (ks.map V.str)) := ⟨_, rfl⟩
      rw [← eH9] at e9 ⊢
      have hv9 := e9 _ _ hv6
      refine ⟨vd, _, rfl, .inl ⟨mK vm, .inr ks[i], hv9, rfl, small1000 (by rw [mk_len]; have := congrArg List.length kv4; unfold wKeys at this; rw [List.length_map, List.length_take] at this; omega), rfl⟩, ?_⟩
      rw [putK_w]
      have hnew : ks[i] ∉ wKeys vm := fun hin => by
        rw [kv4] at hin
        obtain ⟨j, hj, ej⟩ := List.mem_iff_getElem.mp hin
        rw [List.length_take] at hj
        rw [List.getElem_take] at ej
        have := (List.getElem_inj (h₀ := by omega) (h₁ := hik) M1).mp ej
        omega
      have b9 := (b4.trans b6).trans (but_sm e9)
      refine ⟨(d6.keep e9).dk hv9, fun c u hc => ?_, ?_, ⟨_, upd_same, ?_, fun q hq => ?_⟩, _, _, rfl⟩
      · have h9 := b9 c u hc
        have cv : c ≠ vd := fun z => by
          rw [z, del_ne nvd, nvd0] at hc
          cases hc
        by_cases cd : c = d
        · rw [cd, del_same] at hc; cases hc
        · rw [del_ne cd] at h9 ⊢
          rw [upd_ne cv]
          exact h9
      · rw [upd_ne nmv]
        exact e9 _ _ hm6
      · rw [wKeys_put, if_neg hnew, kv4, List.take_add_one, List.getElem?_eq_getElem hik]
        rfl
      · unfold wPut at hq
        rw [if_neg hnew] at hq
        rcases List.mem_append.mp hq with z | z
        · exact bv4 q z
        · rw [List.mem_singleton.mp z]
          exact ⟨n0, n1⟩
  · rintro σ H4 ⟨d4, b4, hm4, ⟨vm, hv4, kv4, bv4⟩, v3, v5, rfl⟩
    refine ⟨_, rfl, q vd vm H4 b4 d4 nvd0 hv4 ?_ ?_⟩
    · have lv : vm.length = (1 + (m : Int)).toNat := by
        have := congrArg List.length kv4
        unfold wKeys at this
        rw [List.length_map, List.length_take] at this
        omega
      refine ⟨⟨fun q hq => ⟨M2 _ (List.mem_of_mem_take (by rw [← kv4]; exact List.mem_map.mpr ⟨q, hq, rfl⟩)), ?_⟩, ?_⟩, by omega, by omega⟩
      · have := bv4 q hq
        unfold isValue
        rw [decide_eq_true (by omega), decide_eq_true (by omega)]
        rfl
      · show (wKeys vm).Nodup
        rw [kv4]
        exact M1.sublist (List.take_sublist ..)
    · intro k hk
      have hk' : k ∈ ks := List.mem_of_mem_take (by rw [← kv4]; exact hk)
      rw [eks] at hk'
      rcases List.mem_append.mp hk' with z | z
      · exact List.mem_of_mem_drop z
      · exact List.mem_of_mem_take z
theorem c_law_values (T : Top w K mg) : Cal P w K mg base CX0 2 "_law_values" (spValues K) := (c_law_valuesN T).imp fun vs H Q E h => by
  match vs, h with
  | [x], h =>
  obtain ⟨d, sc, h1, h2, q⟩ := h
  exact ⟨d, sc, h1, h2, fun a vm H' a1 a2 a3 a4 a5 _ => q a vm H' a1 a2 a3 a4 a5⟩
/-! ### _law_changes -/
def okG (ks : List Str) (g : WM) : Prop := okM g ∧ (∀ k ∈ wKeys g, k ∈ ks) ∧ g.length ≤ 2
theorem okG_put {ks : List Str} {g : WM} {k : Str} {n : Int} (h : okM g ∧ (∀ k ∈ wKeys g, k ∈ ks)) (wk : isWord k = true) (hk : k ∈ ks) (h0 : 0 ≤ n) (h1 : n < 2) : okM (wPut g k n) ∧ ∀ j ∈ wKeys (wPut g k n), j ∈ ks := by
  refine ⟨okM_put h.1 wk (by unfold isValue; rw [decide_eq_true (by omega), decide_eq_true (by omega)]; rfl), fun j hj => ?_⟩
  rw [wKeys_put] at hj
  split at hj
  · exact h.2 j hj
  · rcases List.mem_append.mp hj with z | z
    · exact h.2 j z
    · rw [List.mem_singleton.mp z]; exact hk
def spChanges (K : PySem.W.Frag) : Sp := fun vs H Q _ => match vs with
  | [x, y, z] => ∃ d sc a vm, ∃ most : Nat, x = .ref d ∧ y = .ref a ∧ z = .int most ∧ most ≤ 10 ∧ DrawAt K H d sc ∧ H a = some (.dK (mK vm)) ∧ okV vm ∧
    ∀ r cv gs H', But d H H' → DrawAt K H' d sc → H r = none → H' r = some (.lst (cv.map V.ref)) → Paired (fun c g => H' c = some (.dK (mK g)) ∧ H c = none ∧ okG (wKeys vm) g) cv gs → gs.length ≤ most → Q (.ref r) H'
  | _ => False
theorem sc_law_changes : FnScope ["_law_draws", "_law_values_here", "_law_most", "_law_names", "_law_changes_here", "_law_k", "_law_given_here", "_law_j"] ["_law_draws", "_law_values_here", "_law_most"] (defScope s_law_changes) := ⟨rfl, rfl, rfl, by decide +kernel, rfl, by decide +kernel, by decide +kernel⟩
theorem c_law_changes (T : Top w K mg) : Cal P w K mg base CX0 2 "_law_changes" (spChanges K) := by
  refine cal_0 (f_law_changes T) (g_law_changes T) sc_law_changes (fun _ _ _ _ _ _ us hl => match us, hl with | [_, _, _], _ => rfl) (fun vs H Q E h => match vs, h with | [_, _, _], _ => rfl) (fun cdv A outer s H vs Q E hr h => ?_)
  match vs, h with
  | [x, y, z], h =>
  obtain ⟨d, sc, a, vm, most, rfl, rfl, rfl, hmost, d0, ha, ov, q⟩ := h
  refine ⟨_, (pss_cons (ps_set (i := 3) sc_law_changes.nd rfl (Or.inl rfl) (pcb (z_sorted T) (call_sortedD rfl) boot_sorted (pa_cons (pv 1) pa_nil)))
    (pss_cons (ps_set (i := 4) sc_law_changes.nd rfl (Or.inl rfl) (pe_lst pa_nil))
    (pss_cons (ps_for PassesOwn.never rfl (pi_range1 rfl (z_range T) (pa_cons (pc (c_law_draw T) hr (pa_cons (pv 0) (pa_cons (pe_op op_add (pv 2) pe_int) pa_nil))) pa_nil)) (pg_name (i := 5) sc_law_changes.nd rfl (Or.inl rfl))
      (pss_cons (ps_set (i := 6) sc_law_changes.nd rfl (Or.inl rfl) pe_dnewK)
    (pss_cons (ps_for PassesOwn.never rfl (pi_range1 rfl (z_range T) (pa_cons (pc (c_law_draw T) hr (pa_cons (pv 0) (pa_cons pe_int pa_nil))) pa_nil)) (pg_name (i := 7) sc_law_changes.nd rfl (Or.inl rfl))
      (pss_one (ps_dput (hu_of hr) (pv 6) (pe_ix ix_list (pv 3) (pc (c_law_draw T) hr (pa_cons (pv 0) (pa_cons (pcb (z_len T) call_len_seq boot_len (pa_cons (pv 3) pa_nil)) pa_nil))) (fun _ _ => rfl)) (pc (c_law_draw T) hr (pa_cons (pv 0) (pa_cons pe_int pa_nil))) rfl)))
    (pss_one (ps_expr (pe_bm PySem.F.plainAttrs_list PySem.F.slot_list_append PySem.F.type_list_append mt_append (pv 4) (pa_cons (pv 6) pa_nil)))))))
    (pss_one (ps_ret (pv 4)))))), ?_⟩
  have lvm : (wKeys vm).length = vm.length := List.length_map ..
  refine ⟨_, rfl, a, mK vm, wKeys vm, rfl, .of ha, by unfold mK wKeys; rw [List.map_map, List.map_map]; rfl, by rw [lvm]; have := ov.2.2; omega, fun ys nm hperm hsort hnm => ?_⟩
  have lys : ys.length = vm.length := by rw [hperm.length_eq, lvm]
  have s1 : Same H (upd H nm (.lst (ys.map V.str))) := smNew1 hnm _
  have nnm : nm ≠ d := fun z => d0.1.ne (by rw [← z]; exact hnm)
  refine ⟨(by show 0 ≤ sizeLine; decide), fun cl hcl => ?_⟩
  have s2 := smNew s1 hcl (.lst [])
  have ncl : cl ≠ d := fun z => (d0.keep s1).1.ne (by rw [← z]; exact hcl)
  have nmcl : nm ≠ cl := fun z => by rw [← z, upd_same] at hcl; cases hcl
  have cl0 : H cl = none := s1.free hcl
  have d2 := (d0.keep s1).two hcl (.lst [])
  refine ⟨_, rfl, _, rfl, _, _, rfl, rfl, d, sc, _, rfl, rfl, d2.one, by omega, by omega, fun m H3 m0 m1 b3 d3 => ?_⟩
  obtain ⟨m, rfl, hm⟩ := drawn_of m0 m1
  have hnm3 : H3 nm = some (.lst (ys.map V.str)) := b3.get nnm (by rw [upd_ne nmcl]; exact upd_same)
  have hcl3 : H3 cl = some (.lst []) := b3.get ncl upd_same
  refine ⟨_, rfl, by omega, by omega, ?_⟩
  have b03 : But d H H3 := (but_sm s2).trans b3
  refine for_it (walk_range (lo := 0) (n := m)) (fun i σ H' => Draw2 K H' d sc cl ∧ But d H H' ∧ H' nm = some (.lst (ys.map V.str)) ∧ ∃ cv gs v5 v6 v7, H' cl = some (.lst (cv.map V.ref)) ∧ Paired (fun c g => H' c = some (.dK (mK g)) ∧ H c = none ∧ okG (wKeys vm) g) cv gs ∧ cv.length = i ∧
    σ = [some (.ref d), some (.ref a), some (.int most), some (.ref nm), some (.ref cl), v5, v6, v7]) ⟨d2.but b3 d3, b03, hnm3, [], [], _, _, _, hcl3, .nil, rfl, rfl⟩ (fun _ _ _ _ _ => trivial) ?_ ?_
  · rintro i x σ H7 H7' hi ⟨D7, b7, hn7, cv, gs, v5, v6, v7, hc7, pg7, lcv, rfl⟩ ⟨rfl, rfl⟩
    intro gv hgv
    have gv0 : H gv = none := gro_but b7 D7.hd.ne gv hgv
    have ngv : gv ≠ d := fun z => D7.hd.ne (by rw [← z]; exact hgv)
    have gnew : ∀ c ∈ cv, c ≠ gv := fun c hc => by
      obtain ⟨g, _, hg, _⟩ := paired_mem' pg7 c hc
      exact ne_of_none hg hgv
    have D8 := D7.keep (smNew1 hgv (.dK []))
    refine ⟨_, rfl, d, sc, 3, rfl, rfl, D8.one, by decide, by decide, fun j H9 j0 j1 b9 d9 => ?_⟩
    obtain ⟨j, rfl, j3⟩ := drawn_of j0 j1
    have D9 := D8.but b9 d9
    have hg9 := dk_but b9 D8.hd (upd_same : (upd H7' gv (.dK [])) gv = _)
    have b79 : But d H7' H9 := (but_sm (smNew1 hgv (.dK []))).trans b9
    have b09 : But d H H9 := b7.trans b79
    have hn9 := b79.get nnm hn7
    have hc9 := b79.get ncl hc7
    have pg9 : Paired (fun c g => H9 c = some (.dK (mK g)) ∧ H c = none ∧ okG (wKeys vm) g) cv gs := paired_mono pg7 fun _ _ z => ⟨dk_but b79 D7.hd z.1, z.2⟩
    refine ⟨_, rfl, by omega, by omega, ?_⟩
    refine for_it (walk_range (lo := 0) (n := j)) (fun i σ H' => Draw2 K H' d sc cl ∧ But d H H' ∧ H' nm = some (.lst (ys.map V.str)) ∧ H' cl = some (.lst (cv.map V.ref)) ∧ Paired (fun c g => H' c = some (.dK (mK g)) ∧ H c = none ∧ okG (wKeys vm) g) cv gs ∧ ∃ g v5 v7, H' gv = some (.dK (mK g)) ∧ (okM g ∧ ∀ k ∈ wKeys g, k ∈ wKeys vm) ∧ g.length ≤ i ∧
      σ = [some (.ref d), some (.ref a), some (.int most), some (.ref nm), some (.ref cl), v5, some (.ref gv), v7]) ?_ (fun _ _ _ _ _ => trivial) ?_ ?_
    · exact ⟨D9, b09, hn9, hc9, pg9, [], _, _, hg9, ⟨⟨fun q hq => by simp at hq, List.nodup_nil⟩, fun k hk => by simp [wKeys] at hk⟩, Nat.le_refl _, rfl⟩
    · rintro i2 x2 σ HA HB hi2 ⟨DA, bA, hnA, hcA, pgA, g, w5, w7, hgA, okg, lg, rfl⟩ ⟨rfl, rfl⟩
      refine ⟨_, rfl, d, sc, 2, rfl, rfl, DA.one, by decide, by decide, fun n HC n0 n1 bC dC => ?_⟩
      have DC := DA.but bC dC
      have hgC := dk_but bC DA.hd hgA
      have hnC := bC.get nnm hnA
      refine ⟨_, rfl, _, rfl, _, rfl, _, rfl, nm, _, rfl, .inl (SqL.of hnC), d, sc, _, rfl, rfl, DC.one, ?_, ?_, fun r HD r0 r1 bD dD => ?_⟩
      · rw [List.length_map]; have := ov.2.1; omega
      · rw [List.length_map]; have := ov.2.2; omega
      have DD := DC.but bD dD
      have hgD := dk_but bD DC.hd hgC
      obtain ⟨r, rfl, r1'⟩ := drawn_of r0 r1
      rw [List.length_map] at r1'
      have hr : r < ys.length := by omega
      have hky : ys[r] ∈ wKeys vm := hperm.mem_iff.mp (List.getElem_mem hr)
      have wky : isWord ys[r] = true := by
        obtain ⟨p, hp, e⟩ := List.mem_map.mp hky
        rw [← e]
        exact (ov.1.1 p hp).1
      have hnD := bD.get nnm hnC
      refine ⟨nm, _, _, .str ys[r], rfl, rfl, SqL.of hnD, atI_nat (by rw [List.getElem?_map, List.getElem?_eq_getElem hr]; rfl), ?_⟩
      refine ⟨gv, _, rfl, .inl ⟨mK g, .inr ys[r], hgD, rfl, small1000 (by rw [mk_len]; omega), rfl⟩, ?_⟩
      rw [putK_w]
      have bAD := bC.trans bD
      have cgv : cl ≠ gv := fun z => by rw [← z, hcA] at hgA; cases hgA
      have ngvn : nm ≠ gv := fun z => by rw [← z, hnA] at hgA; cases hgA
      refine ⟨DD.dk hgD (Ne.symm cgv), but_new (bA.trans bAD) gv0, ?_, ?_, ?_, wPut g ys[r] n, _, _, upd_same, okG_put okg wky hky n0 n1, ?_, rfl⟩
      · rw [upd_ne ngvn]; exact hnD
      · rw [upd_ne cgv]; exact bAD.get ncl hcA
      · refine paired_andL pgA fun c hc _ z => ⟨?_, z.2⟩
        rw [upd_ne (gnew c hc)]
        exact dk_but bAD DA.hd z.1
      · have := len_put' g ys[r] n
        omega
    · rintro σ HA ⟨DA, bA, hnA, hcA, pgA, g, w5, w7, hgA, okg, lg, rfl⟩
      refine ⟨_, rfl, .inl ⟨rfl, _, SqL.of hcA⟩, _, rfl, cl, _, .ref gv, rfl, rfl, hcA, small1000 (by rw [List.length_map]; omega), ?_⟩
      refine ⟨DA.upd _, but_new bA cl0, ?_, cv ++ [gv], gs ++ [g], _, _, _, ?_, ?_, by rw [List.length_append, lcv]; rfl, rfl⟩
      · rw [upd_ne nmcl]; exact hnA
      · rw [upd_same, List.map_append]; rfl
      · exact Paired.snoc (paired_mono pgA fun _ _ z => ⟨dk_updL hcA z.1, z.2⟩) ⟨dk_updL hcA hgA, gv0, okg.1, okg.2, by omega⟩
  · rintro σ H7 ⟨D7, b7, hn7, cv, gs, v5, v6, v7, hc7, pg7, lcv, rfl⟩
    have := pg7.length
    exact ⟨_, rfl, q cl cv gs H7 b7 D7.one cl0 hc7 pg7 (by omega)⟩
end
end RM

set_option Elab.async false
set_option linter.all false
set_option maxRecDepth 100000
set_option maxHeartbeats 4000000
namespace RM
open PySem PySem.Spec PyProof.Rows L2
/-! ### _law_like -/
mutual
/-- no row is too long -/
def thin : PyData → Bool
  | .list xs => decide (xs.length ≤ 1000000) && thins xs
  | .tuple xs => decide (xs.length ≤ 1000000) && thins xs
  | _ => true
def thins : List PyData → Bool
  | [] => true
  | x :: xs => thin x && thins xs
end
theorem thins_get : ∀ {ds : List PyData}, thins ds = true → ∀ d ∈ ds, thin d = true
  | [], _, d, h => by simp at h
  | e :: r, n, d, h => by
    rw [thins, Bool.and_eq_true] at n
    rcases List.mem_cons.mp h with rfl | h
    · exact n.1
    · exact thins_get n.2 d h
theorem thins_of : ∀ {ds : List PyData}, (∀ d ∈ ds, thin d = true) → thins ds = true
  | [], _ => rfl
  | e :: r, h => by rw [thins, h e List.mem_cons_self, thins_of fun d hd => h d (List.mem_cons_of_mem _ hd)]; rfl
theorem depthAll_get : ∀ {ds : List PyData} {d : PyData}, d ∈ ds → d.depth ≤ PyData.depthAll ds
  | [], _, h => by simp at h
  | e :: r, d, h => by
    rw [PyData.depthAll]
    rcases List.mem_cons.mp h with rfl | h
    · exact Nat.le_max_left _ _
    · exact Nat.le_trans (depthAll_get h) (Nat.le_max_right _ _)
section
variable {P : Program} {w : World} {K : PySem.W.Frag} {mg : Str → Option Value} {base : Heap}
def spLike (K : PySem.W.Frag) (n : Nat) : Sp := fun vs H Q _ => match vs with
  | [x, y] => ∃ d, Dp K H x d ∧ Dp K H y d ∧ thin d = true ∧ d.depth < n ∧ ∀ H', Same H H' → Q (.bl true) H'
  | _ => False
theorem sc_law_like : FnScope ["_law_actual", "_law_due", "_law_k"] ["_law_actual", "_law_due"] (defScope s_law_like) := ⟨rfl, rfl, rfl, by decide +kernel, rfl, by decide +kernel, by decide +kernel⟩
theorem like_rows {H : Hp} {xs ys : List V} {ds : List PyData} (h1 : DpAll K H xs ds) (h2 : DpAll K H ys ds) (i : Nat) (hi : i < ds.length) : ∃ x y, xs[i]? = some x ∧ ys[i]? = some y ∧ Dp K H x ds[i] ∧ Dp K H y ds[i] := by
  obtain ⟨x, hx, dx⟩ := DpAll.get h1 (List.getElem?_eq_getElem hi)
  obtain ⟨y, hy, dy⟩ := DpAll.get h2 (List.getElem?_eq_getElem hi)
  exact ⟨x, y, hx, hy, dx, dy⟩
theorem ok_law_like (T : Top w K mg) {n : Nat} (ih : Cal P w K mg base CX0 (n + 1) "_law_like" (spLike K n)) : Cal P w K mg base CX0 (n + 2) "_law_like" (spLike K (n + 1)) := by
  refine cal_0 (f_law_like T) (g_law_like T) sc_law_like (fun _ _ _ _ _ _ us hl => match us, hl with | [_, _], _ => rfl) (fun vs H Q E h => match vs, h with | [_, _], _ => rfl) (fun cdv A outer s H vs Q E hr h => ?_)
  match vs, h with
  | [x, y], h =>
  obtain ⟨d, hx, hy, ht, hd, q⟩ := h
  have qq := q H (Same.refl H)
  refine ⟨_, (pss_cons (ps_if (pt_cmp (pc_isN (pv 1)) rfl)
      (pss_one (ps_ret (pe_cmp (pc_isN (pv 0)) rfl)))
      pss_nil)
    (pss_cons (ps_if (pt_val (pcb (z_isinstance T) call_isi boot_isinstance (pa_cons (pv 1) (pa_cons (pty (z_bool T) boot_bool) pa_nil))))
      (pss_one (ps_ret (pe_and (pcb (z_isinstance T) call_isi boot_isinstance (pa_cons (pv 0) (pa_cons (pty (z_bool T) boot_bool) pa_nil))) (pe_one (pe_cmpR op_eq (pv 0) (pv 1) (nomark _))))))
      pss_nil)
    (pss_cons (ps_if (pt_val (pcb (z_isinstance T) call_isi boot_isinstance (pa_cons (pv 1) (pa_cons (pty (z_int T) boot_int) pa_nil))))
      (pss_one (ps_ret (pe_and (pcb (z_isinstance T) call_isi boot_isinstance (pa_cons (pv 0) (pa_cons (pty (z_int T) boot_int) pa_nil))) (pe_and (pe_not (pcb (z_isinstance T) call_isi boot_isinstance (pa_cons (pv 0) (pa_cons (pty (z_bool T) boot_bool) pa_nil)))) (pe_one (pe_cmpR op_eq (pv 0) (pv 1) (nomark _)))))))
      pss_nil)
    (pss_cons (ps_if (pt_val (pcb (z_isinstance T) call_isi boot_isinstance (pa_cons (pv 1) (pa_cons (pty (z_str T) boot_str) pa_nil))))
      (pss_one (ps_ret (pe_and (pcb (z_isinstance T) call_isi boot_isinstance (pa_cons (pv 0) (pa_cons (pty (z_str T) boot_str) pa_nil))) (pe_one (pe_cmpR op_eq (pv 0) (pv 1) (nomark _))))))
      pss_nil)
    (pss_cons (ps_if (pt_val (pcb (z_isinstance T) call_isi boot_isinstance (pa_cons (pv 1) (pa_cons (pty (z_tuple T) boot_tuple) pa_nil))))
      (pss_one (ps_if (PW.pt (pw_or (pt_not (pt_val (pcb (z_isinstance T) call_isi boot_isinstance (pa_cons (pv 0) (pa_cons (pty (z_tuple T) boot_tuple) pa_nil))))) (pw_or1 (pt_cmpR op_ne (pcb (z_len T) call_len_seq boot_len (pa_cons (pv 0) pa_nil)) (pcb (z_len T) call_len_seq boot_len (pa_cons (pv 1) pa_nil)) (nomark _)))))
      (pss_one (ps_ret pe_bl))
      pss_nil))
      (pss_one (ps_if (PW.pt (pw_or (pt_not (pt_val (pcb (z_isinstance T) call_isi boot_isinstance (pa_cons (pv 0) (pa_cons (pty (z_list T) boot_list) pa_nil))))) (pw_or1 (pt_cmpR op_ne (pcb (z_len T) call_len_seq boot_len (pa_cons (pv 0) pa_nil)) (pcb (z_len T) call_len_seq boot_len (pa_cons (pv 1) pa_nil)) (nomark _)))))
      (pss_one (ps_ret pe_bl))
      pss_nil)))
    (pss_cons (ps_for PassesOwn.never rfl (pi_range1 rfl (z_range T) (pa_cons (pcb (z_len T) call_len_seq boot_len (pa_cons (pv 1) pa_nil)) pa_nil)) (pg_name (i := 2) sc_law_like.nd rfl (Or.inl rfl))
      (pss_one (ps_if (pt_not (pt_val (pc ih hr (pa_cons (pe_ix ix_any (pv 0) (pv 2) (fun _ _ => rfl)) (pa_cons (pe_ix ix_any (pv 1) (pv 2) (fun _ _ => rfl)) pa_nil)))))
      (pss_one (ps_ret pe_bl))
      pss_nil)))
    (pss_one (ps_ret pe_bl)))))))), ?_⟩
  cases d with
  | none =>
    cases hx
    cases hy
    exact ⟨_, rfl, _, rfl, ifT rfl ⟨_, rfl, qq⟩⟩
  | bool b =>
    cases hx
    cases hy
    refine ⟨_, rfl, _, rfl, ifF rfl ?_⟩
    refine ⟨_, rfl, _, _, _, _, true, rfl, .ty _, .base (.bl _), kit_ty (by decide +kernel), _, rfl, ifT rfl ?_⟩
    refine ⟨_, rfl, _, _, _, _, true, rfl, .ty _, .base (.bl _), kit_ty (by decide +kernel), _, rfl, ifT rfl ?_⟩
    exact ⟨_, rfl, _, rfl, rfl, qT (decide_eq_true rfl) qq⟩
  | int i =>
    cases hx
    cases hy
    refine ⟨_, rfl, _, rfl, ifF rfl ?_⟩
    refine ⟨_, rfl, _, _, _, _, false, rfl, .ty _, .base (.int _), kit_ty (by decide +kernel), _, rfl, ifF rfl ?_⟩
    refine ⟨_, rfl, _, _, _, _, true, rfl, .ty _, .base (.int _), kit_ty (by decide +kernel), _, rfl, ifT rfl ?_⟩
    refine ⟨_, rfl, _, _, _, _, true, rfl, .ty _, .base (.int _), kit_ty (by decide +kernel), _, rfl, ifT rfl ?_⟩
    refine ⟨_, rfl, _, _, _, _, false, rfl, .ty _, .base (.int _), kit_ty (by decide +kernel), _, rfl, _, rfl, ifT rfl ?_⟩
    exact ⟨_, rfl, _, rfl, rfl, qT (decide_eq_true rfl) qq⟩
  | str z =>
    cases hx
    cases hy
    refine ⟨_, rfl, _, rfl, ifF rfl ?_⟩
    refine ⟨_, rfl, _, _, _, _, false, rfl, .ty _, .base (.str _), kit_ty (by decide +kernel), _, rfl, ifF rfl ?_⟩
    refine ⟨_, rfl, _, _, _, _, false, rfl, .ty _, .base (.str _), kit_ty (by decide +kernel), _, rfl, ifF rfl ?_⟩
    refine ⟨_, rfl, _, _, _, _, true, rfl, .ty _, .base (.str _), kit_ty (by decide +kernel), _, rfl, ifT rfl ?_⟩
    refine ⟨_, rfl, _, _, _, _, true, rfl, .ty _, .base (.str _), kit_ty (by decide +kernel), _, rfl, ifT rfl ?_⟩
    exact ⟨_, rfl, _, rfl, rfl, qT (decide_eq_true rfl) qq⟩
  | dict kvs => cases hx
  | tuple ds =>
    obtain ⟨a, xs, rfl, ha, hxs⟩ := Dp.tup_inv hx
    obtain ⟨b, ys, rfl, hb, hys⟩ := Dp.tup_inv hy
    have l1 := DpAll.len hxs
    have l2 := DpAll.len hys
    have ht' : (decide (ds.length ≤ 1000000) && thins ds) = true := ht
    rw [Bool.and_eq_true] at ht'
    have lb := of_decide_eq_true ht'.1
    refine ⟨_, rfl, _, rfl, ifF rfl ?_⟩
    refine ⟨_, rfl, _, _, _, _, false, rfl, .ty _, tyT hb, kit_ty (by decide +kernel), _, rfl, ifF rfl ?_⟩
    refine ⟨_, rfl, _, _, _, _, false, rfl, .ty _, tyT hb, kit_ty (by decide +kernel), _, rfl, ifF rfl ?_⟩
    refine ⟨_, rfl, _, _, _, _, false, rfl, .ty _, tyT hb, kit_ty (by decide +kernel), _, rfl, ifF rfl ?_⟩
    refine ⟨_, rfl, _, _, _, _, true, rfl, .ty _, tyT hb, kit_ty (by decide +kernel), _, rfl, ifT rfl ?_⟩
    refine ⟨_, rfl, _, _, _, _, true, rfl, .ty _, tyT ha, kit_ty (by decide +kernel), _, rfl, ifF rfl ?_⟩
    refine ⟨_, rfl, a, xs, rfl, .inr ha, _, rfl, b, ys, rfl, .inr hb, rfl, _, rfl, ifF (by rw [l1, l2]; simp) ?_⟩
    refine ⟨_, rfl, b, ys, rfl, .inr hb, _, rfl, by omega, by omega, ?_⟩
    rw [show (((ys.length : Nat) : Int)).toNat = ys.length from rfl]
    refine for_it (walk_range (lo := 0) (n := ys.length)) (fun i σ H' => Same H H' ∧ ∃ v, σ = [some (.ref a), some (.ref b), v]) ⟨Same.refl H, none, rfl⟩ (fun _ _ _ _ _ => trivial) ?_ ?_
    · rintro i z σ H1 H2 hi ⟨s1, v, rfl⟩ ⟨rfl, rfl⟩
      obtain ⟨x1, y1, hx1, hy1, dx, dy⟩ := like_rows hxs hys i (by omega)
      refine ⟨_, rfl, _, rfl, a, xs, _, x1, rfl, rfl, .inr (smT s1 ha), atI_nat0 hx1, ?_⟩
      refine ⟨_, rfl, _, rfl, b, ys, _, y1, rfl, rfl, .inr (smT s1 hb), atI_nat0 hy1, ?_⟩
      have hm : ds[i]'(by omega) ∈ ds := List.getElem_mem _
      have := depthAll_get hm
      refine ⟨_, Dp.keep s1 dx, Dp.keep s1 dy, thins_get ht'.2 _ hm, by simp only [PyData.depth] at hd; omega, fun H3 s3 => ?_⟩
      exact ⟨_, rfl, ifF rfl ⟨s1.trans s3, _, rfl⟩⟩
    · rintro σ H1 ⟨s1, v, rfl⟩
      exact q H1 s1
  | list ds =>
    obtain ⟨a, xs, rfl, ha, hxs⟩ := Dp.lst_inv hx
    obtain ⟨b, ys, rfl, hb, hys⟩ := Dp.lst_inv hy
    have l1 := DpAll.len hxs
    have l2 := DpAll.len hys
    have ht' : (decide (ds.length ≤ 1000000) && thins ds) = true := ht
    rw [Bool.and_eq_true] at ht'
    have lb := of_decide_eq_true ht'.1
    refine ⟨_, rfl, _, rfl, ifF rfl ?_⟩
    refine ⟨_, rfl, _, _, _, _, false, rfl, .ty _, tyL hb, kit_ty (by decide +kernel), _, rfl, ifF rfl ?_⟩
    refine ⟨_, rfl, _, _, _, _, false, rfl, .ty _, tyL hb, kit_ty (by decide +kernel), _, rfl, ifF rfl ?_⟩
    refine ⟨_, rfl, _, _, _, _, false, rfl, .ty _, tyL hb, kit_ty (by decide +kernel), _, rfl, ifF rfl ?_⟩
    refine ⟨_, rfl, _, _, _, _, false, rfl, .ty _, tyL hb, kit_ty (by decide +kernel), _, rfl, ifF rfl ?_⟩
    refine ⟨_, rfl, _, _, _, _, true, rfl, .ty _, tyL ha, kit_ty (by decide +kernel), _, rfl, ifF rfl ?_⟩
    refine ⟨_, rfl, a, xs, rfl, .inl ha, _, rfl, b, ys, rfl, .inl hb, rfl, _, rfl, ifF (by rw [l1, l2]; simp) ?_⟩
    refine ⟨_, rfl, b, ys, rfl, .inl hb, _, rfl, by omega, by omega, ?_⟩
    rw [show (((ys.length : Nat) : Int)).toNat = ys.length from rfl]
    refine for_it (walk_range (lo := 0) (n := ys.length)) (fun i σ H' => Same H H' ∧ ∃ v, σ = [some (.ref a), some (.ref b), v]) ⟨Same.refl H, none, rfl⟩ (fun _ _ _ _ _ => trivial) ?_ ?_
    · rintro i z σ H1 H2 hi ⟨s1, v, rfl⟩ ⟨rfl, rfl⟩
      obtain ⟨x1, y1, hx1, hy1, dx, dy⟩ := like_rows hxs hys i (by omega)
      refine ⟨_, rfl, _, rfl, a, xs, _, x1, rfl, rfl, .inl (s1.seq ha), atI_nat0 hx1, ?_⟩
      refine ⟨_, rfl, _, rfl, b, ys, _, y1, rfl, rfl, .inl (s1.seq hb), atI_nat0 hy1, ?_⟩
      have hm : ds[i]'(by omega) ∈ ds := List.getElem_mem _
      have := depthAll_get hm
      refine ⟨_, Dp.keep s1 dx, Dp.keep s1 dy, thins_get ht'.2 _ hm, by simp only [PyData.depth] at hd; omega, fun H3 s3 => ?_⟩
      exact ⟨_, rfl, ifF rfl ⟨s1.trans s3, _, rfl⟩⟩
    · rintro σ H1 ⟨s1, v, rfl⟩
      exact q H1 s1
theorem c_law_like (T : Top w K mg) : ∀ n, Cal P w K mg base CX0 (n + 1) "_law_like" (spLike K n)
  | 0 => cal_never (f_law_like T) (g_law_like T) (ps := ["_law_actual", "_law_due"]) (fun _ _ _ _ _ _ us hl => match us, hl with | [_, _], _ => rfl) fun vs H Q E h => by
      match vs, h with
      | [x, y], h =>
      obtain ⟨d, _, _, _, hd, _⟩ := h
      omega
  | n + 1 => ok_law_like T (c_law_like T n)
end
end RM

set_option Elab.async false
set_option linter.all false
set_option maxRecDepth 100000
set_option maxHeartbeats 4000000
set_option pp.maxSteps 600
set_option pp.deepTerms false
namespace RM
open PySem PySem.Spec PyProof.Rows L2
theorem over_snoc (m g : WM) {i : Nat} {z : Str × Int} (h : g[i]? = some z) : wOver m (g.take (i + 1)) = wPut (wOver m (g.take i)) z.1 z.2 := by
  unfold wOver
  rw [List.take_add_one, h, List.foldl_append]
  rfl
theorem len_over' (m g : WM) : (wOver m g).length ≤ m.length + g.length := by
  unfold wOver
  induction g generalizing m with
  | nil => exact Nat.le_refl _
  | cons q r ih =>
    have := ih (wPut m q.1 q.2)
    have := len_put' m q.1 q.2
    rw [List.foldl_cons, List.length_cons]
    omega
theorem wGet_len {m g : WM} (hm : (wKeys m).Nodup) (hg : (wKeys g).Nodup) (h : ∀ k, wGet m k = wGet g k) : m.Perm g := by
  have mem : ∀ k, k ∈ wKeys m ↔ k ∈ wKeys g := fun k => by
    have := h k
    constructor
    · intro hk
      refine Decidable.byContradiction fun hn => ?_
      rw [wGet_none.mpr hn] at this
      exact wGet_none.mp this hk
    · intro hk
      refine Decidable.byContradiction fun hn => ?_
      rw [wGet_none.mpr hn] at this
      exact wGet_none.mp this.symm hk
  have pk : (wKeys m).Perm (wKeys g) := (List.perm_ext_iff_of_nodup hm hg).mpr mem
  rw [w_ext hm, w_ext hg]
  refine (pk.map _).trans ?_
  rw [List.map_congr_left fun k _ => by rw [h k]]
theorem nodup_perm {m g : WM} (p : m.Perm g) (n : (wKeys g).Nodup) : (wKeys m).Nodup := (List.Perm.map (fun q : Str × Int => q.1) p).nodup_iff.mpr n
theorem perm_over {m vm g c : WM} (pm : m.Perm vm) (pg : g.Perm c) (nv : (wKeys vm).Nodup) (nc : (wKeys c).Nodup) : (wOver m g).Perm (wOver vm c) := by
  have nm : (wKeys m).Nodup := nodup_perm pm nv
  have ng : (wKeys g).Nodup := nodup_perm pg nc
  refine wGet_len (nodup_over nm _) (nodup_over nv _) fun k => ?_
  rw [wGet_over ng, wGet_over nc, wGet_perm nv pm, wGet_perm nc pg]
theorem perm_put {m vm : WM} (pm : m.Perm vm) (nv : (wKeys vm).Nodup) (k : Str) (n : Int) : (wPut m k n).Perm (wPut vm k n) := by
  have nm : (wKeys m).Nodup := nodup_perm pm nv
  refine wGet_len (nodup_put nm _ _) (nodup_put nv _ _) fun j => ?_
  rw [wGet_put, wGet_put, wGet_perm nv pm]
theorem lack_lost {m g : WM} (sg : sortedS (wKeys g) = true) (hl : ("lost" : Str) ∈ wKeys g) (nl : ("lost" : Str) ∉ wKeys m) (hk : ∀ k ∈ wKeys g, k ∈ wKeys m ∨ k = ("lost" : Str) ∨ k = ("zz" : Str)) : lack m g = some ("lost" : Str) := by
  unfold lack
  cases e : (wKeys g).find? fun k => decide (k ∉ wKeys m) with
  | none =>
    have := List.find?_eq_none.mp e _ hl
    simp [nl] at this
  | some k =>
    obtain ⟨h1, as, bs, h2, h3⟩ := List.find?_eq_some_iff_append.mp e
    have nk : k ∉ wKeys m := of_decide_eq_true h1
    have ki : k ∈ wKeys g := by rw [h2]; exact List.mem_append_right _ List.mem_cons_self
    rcases hk k ki with z | z | z
    · exact absurd z nk
    · rw [z]
    · exfalso
      subst z
      rw [h2] at hl
      have pw := sorted_pw sg
      rw [h2, List.pairwise_append] at pw
      rcases List.mem_append.mp hl with z | z
      · have := h3 _ z
        simp [nl] at this
      · rcases List.mem_cons.mp z with z | z
        · exact absurd z (by decide)
        · have := (List.pairwise_cons.mp pw.2.1).1 _ z
          exact absurd this (by decide +kernel)
theorem lack_in {m g : WM} (h : ∀ k ∈ wKeys g, k ∈ wKeys m) : lack m g = none := by
  unfold lack
  rw [List.find?_eq_none]
  intro k hk
  simp [h k hk]
section
variable {P : Program} {w : World} {K : PySem.W.Frag} {mg : Str → Option Value} {base : Heap}
/-! ### == of equal surroundings -/
def spSEq (K : PySem.W.Frag) : Sp := fun vs H Q _ => match vs with
  | [x, y] => ∃ a b m, x = .ref a ∧ y = .ref b ∧ SurAt K H a m ∧ SurAt K H b m ∧ Q (.bl true) H
  | _ => False
theorem sc_Surroundings_eq : FnScope ["self", "other"] ["self", "other"] (defScope s_Surroundings_eq) := ⟨rfl, rfl, rfl, by decide +kernel, rfl, by decide +kernel, by decide +kernel⟩
theorem o_Surroundings_eq (T : Top w K mg) : Own P w K mg base 1 (He.ga K "Surroundings") "__eq__" (spSEq K) := by
  refine own_0 (f_Surroundings_eq T) (spc_Surroundings_eq T) sc_Surroundings_eq (fun _ _ _ _ _ _ us hl => match us, hl with | [_, _], _ => rfl) (fun vs H Q E h => match vs, h with | [_, _], _ => rfl) (fun cdv A outer s H vs Q E hr h => ?_)
  match vs, h with
  | [x, y], h =>
  obtain ⟨a, b, m, rfl, rfl, ⟨⟨dx, p, ha, hp, okm, sm⟩, l1, l4⟩, ⟨⟨dy, p2, hb, hp2, _, _⟩, _, _⟩, q⟩ := h
  refine ⟨_, (pss_cons (ps_if (pt_not (pt_val (pcb (z_isinstance T) call_isi boot_isinstance (pa_cons (pv 1) (pa_cons (pglR (g_Surroundings T)) pa_nil)))))
      (pss_one ps_never)
      pss_nil)
    (pss_one (ps_ret (pe_cmpR (op_eq_dictA (room0 hr)) (pe_fld (pv 0) rfl) (pe_fld (pv 1) rfl) (nomark _))))), ?_⟩
  refine ⟨_, rfl, _, _, _, _, true, rfl, .own _, .base (insB_ty (ins_Surroundings T) (k_Surroundings T) hb), kitC_ok (kit_Surroundings_Surroundings T), ?_⟩
  refine ⟨_, rfl, ifF rfl ?_⟩
  refine ⟨_, rfl, a, _, dx, _, _, rfl, ha, k_Surroundings T, na_Surroundings_now T, rfl, _, rfl, b, _, dy, _, _, rfl, hb, k_Surroundings T, na_Surroundings_now T, rfl, ?_⟩
  refine ⟨p, p2, mK m, mK m, rfl, rfl, hp, hp2, rfl, fun q hq => ?_, q⟩
  obtain ⟨z, hz, rfl⟩ := List.mem_map.mp hq
  exact ⟨valV_mK okm.2 z hz, rfl⟩
/-! ### _law_over -/
def spOver (K : PySem.W.Frag) : Sp := fun vs H Q _ => match vs with
  | [x, y] => ∃ v c m g, x = .ref v ∧ y = .ref c ∧ H v = some (.dK (mK m)) ∧ H c = some (.dK (mK g)) ∧ (wKeys g).Nodup ∧ m.length ≤ 100 ∧ g.length ≤ 100 ∧
    ∀ p H', Same H H' → H p = none → H' p = some (.dK (mK (wOver m g))) → Q (.ref p) H'
  | _ => False
theorem sc_law_over : FnScope ["_law_values_here", "_law_given_here", "_law_found", "_law_key"] ["_law_values_here", "_law_given_here"] (defScope s_law_over) := ⟨rfl, rfl, rfl, by decide +kernel, rfl, by decide +kernel, by decide +kernel⟩
theorem c_law_over (T : Top w K mg) : Cal P w K mg base CX0 1 "_law_over" (spOver K) := by
  refine cal_0 (f_law_over T) (g_law_over T) sc_law_over (fun _ _ _ _ _ _ us hl => match us, hl with | [_, _], _ => rfl) (fun vs H Q E h => match vs, h with | [_, _], _ => rfl) (fun cdv A outer s H vs Q E hr h => ?_)
  match vs, h with
  | [x, y], h =>
  obtain ⟨v, c, m, g, rfl, rfl, hv, hc, ng, lm, lg, q⟩ := h
  refine ⟨_, (pss_cons (ps_set (i := 2) sc_law_over.nd rfl (Or.inl rfl) (pct (z_dict T) call_dictD boot_dict (pa_cons (pv 0) pa_nil)))
    (pss_cons (ps_lock (ps_for PassesOwn.never rfl (pi_keys (pv 1)) (pg_name (i := 3) sc_law_over.nd rfl (Or.inl rfl))
      (pss_one (ps_dput (hu_of hr) (pv 2) (pv 3) (pe_dget (hu_of hr) (pv 1) (pv 3) (fun _ _ => rfl)) rfl))))
    (pss_one (ps_ret (pv 2))))), ?_⟩
  refine ⟨_, rfl, v, mK m, rfl, .of hv, fun p hp => ?_⟩
  have s1 := smNew1 hp (.dK (mK m))
  have hc1 := s1 _ _ hc
  have pc : p ≠ c := (ne_of_none hc hp).symm
  have lgK : (mK g).length = g.length := List.length_map ..
  refine ⟨c, .dK (mK g), hc1, trivial, fun od => ?_⟩
  obtain ⟨HL, eHL⟩ : ∃ HL, HL = upd (upd H p (.dK (mK m))) c (.frz od (.dK (mK g))) := ⟨_, rfl⟩
  rw [← eHL]
  have cL : HL c = some (.frz od (.dK (mK g))) := by rw [eHL, upd_same]
  have pL : HL p = some (.dK (mK m)) := by rw [eHL, upd_ne pc, upd_same]
  refine ⟨_, rfl, c, od, rfl, .inl ⟨mK g, cL, for_it walk_keys (fun i σ H' => H' = upd HL p (.dK (mK (wOver m (g.take i)))) ∧ ∃ v3, σ = [some (.ref v), some (.ref c), some (.ref p), v3])
    ⟨(by
      show HL = upd HL p (.dK (mK m))
      funext b
      by_cases z : b = p
      · rw [z, upd_same, pL]
      · rw [upd_ne z]), _, rfl⟩ (fun i σ H' _ h => by rw [h.1, upd_ne pc.symm]; exact cL) ?_ ?_⟩⟩
  · rintro i x σ H1 H2 hi ⟨rfl, v3, rfl⟩ ⟨rfl, k, v2, hkv, rfl⟩
    obtain ⟨z, hz, rfl, rfl⟩ := mK_get hkv
    have zm := List.mem_of_getElem? hz
    refine ⟨_, rfl, _, rfl, c, .int z.2, rfl, .inl ⟨mK g, .inr z.1, .inr ⟨od, by rw [upd_ne pc.symm]; exact cL⟩, rfl, (valV_mK ng z zm).symm⟩, ?_⟩
    refine ⟨_, rfl, _, rfl, p, _, rfl, .inl ⟨mK (wOver m (g.take i)), .inr z.1, upd_same, rfl, small1000 (by
      rw [mk_len]
      have := len_over' m (g.take i)
      rw [List.length_take] at this
      omega), rfl⟩, ?_⟩
    rw [putK_w, over_snoc m g hz]
    refine ⟨?_, _, rfl⟩
    funext b
    by_cases zb : b = p
    · rw [zb, upd_same, upd_same]
    · rw [upd_ne zb, upd_ne zb, upd_ne zb]
  · rintro σ H1 ⟨rfl, v3, rfl⟩
    rw [lgK, List.take_length]
    refine ⟨by rw [upd_ne pc.symm]; exact cL, ?_⟩
    refine ⟨_, rfl, q p _ (fun b u hb => ?_) hp ?_⟩
    · by_cases zc : b = c
      · rw [zc] at hb ⊢
        rw [upd_same, ← hb, hc]
      · have zp : b ≠ p := ne_of_none hb hp
        rw [upd_ne zc, upd_ne zp, eHL, upd_ne zc, upd_ne zp]
        exact hb
    · rw [upd_ne pc, upd_same]
/-! ### _law_stands -/
theorem map_atK {α β : Type} (l : List α) (f : α → β) : (List.range l.length).filterMap (fun i => (l[i]?).map f) = l.map f := by
  have := congrArg (List.map f) (some_range l)
  rw [List.map_filterMap] at this
  exact this
theorem strs_dpK {H : Hp} : ∀ ks : List Str, DpAll K H (ks.map V.str) (ks.map .str)
  | [] => .nil
  | k :: r => .cons (.str k) (strs_dpK r)
theorem ints_dpK {H : Hp} : ∀ ks : List Int, DpAll K H (ks.map V.int) (ks.map .int)
  | [] => .nil
  | k :: r => .cons (.int k) (ints_dpK r)
theorem strs_thin {ks : List Str} (h : ks.length ≤ 1000) : thin (.tuple (ks.map .str)) = true := by
  show (decide ((ks.map PyData.str).length ≤ 1000000) && thins (ks.map .str)) = true
  rw [List.length_map, decide_eq_true (by omega), thins_of fun d hd => by obtain ⟨z, _, rfl⟩ := List.mem_map.mp hd; rfl]
  rfl
theorem strs_deep (ks : List Str) : (PyData.tuple (ks.map .str)).depth < 3 := by
  have : PyData.depthAll (ks.map .str) ≤ 1 := by
    induction ks with
    | nil => exact Nat.zero_le _
    | cons k r ih => exact Nat.max_le.mpr ⟨Nat.zero_le _, ih⟩
  show PyData.depthAll (ks.map .str) + 1 < 3
  omega
theorem ints_thin {ks : List Int} (h : ks.length ≤ 1000) : thin (.tuple (ks.map .int)) = true := by
  show (decide ((ks.map PyData.int).length ≤ 1000000) && thins (ks.map .int)) = true
  rw [List.length_map, decide_eq_true (by omega), thins_of fun d hd => by obtain ⟨z, _, rfl⟩ := List.mem_map.mp hd; rfl]
  rfl
theorem ints_deep (ks : List Int) : (PyData.tuple (ks.map .int)).depth < 3 := by
  have : PyData.depthAll (ks.map .int) ≤ 1 := by
    induction ks with
    | nil => exact Nat.zero_le _
    | cons k r ih => exact Nat.max_le.mpr ⟨Nat.zero_le _, ih⟩
  show PyData.depthAll (ks.map .int) + 1 < 3
  omega
def noOdd (vm : WM) : Prop := ("lost" : Str) ∉ wKeys vm ∧ ("zz" : Str) ∉ wKeys vm
def spStands (K : PySem.W.Frag) : Sp := fun vs H Q _ => match vs with
  | [x, y] => ∃ a v m vm, x = .ref a ∧ y = .ref v ∧ SurAt K H a m ∧ H v = some (.dK (mK vm)) ∧ m.Perm vm ∧ okV vm ∧ noOdd vm ∧ ∀ H', Same H H' → Q (.bl true) H'
  | _ => False
theorem sc_law_stands : FnScope ["_law_place", "_law_values_here", "_law_names", "_law_key"] ["_law_place", "_law_values_here"] (defScope s_law_stands) := ⟨rfl, rfl, rfl, by decide +kernel, rfl, by decide +kernel, by decide +kernel⟩
theorem c_law_stands (T : Top w K mg) : Cal P w K mg base CX0 22 "_law_stands" (spStands K) := by
  refine cal_0 (f_law_stands T) (g_law_stands T) sc_law_stands (fun _ _ _ _ _ _ us hl => match us, hl with | [_, _], _ => rfl) (fun vs H Q E h => match vs, h with | [_, _], _ => rfl) (fun cdv A outer s H vs Q E hr h => ?_)
  match vs, h with
  | [x, y], h =>
  obtain ⟨a, v, m, vm, rfl, rfl, sa, hv, pm, ov, no, q⟩ := h
  refine ⟨_, (pss_cons (ps_set (i := 2) sc_law_stands.nd rfl (Or.inl rfl) (pcb (z_sorted T) (call_sortedD rfl) boot_sorted (pa_cons (pv 1) pa_nil)))
    (pss_cons (ps_if (PW.pt (pw_or (pt_not (pt_val (pc (c_law_like T 3) hr (pa_cons (pmt0 (c_Surroundings_keys_of T) hr (pv 0)) (pa_cons (pct (z_tuple T) call_tuple_of boot_tuple (pa_cons (pv 2) pa_nil)) pa_nil))))) (pw_or1 (pt_cmpR op_ne (pcb (z_len T) (call_lenO (E := E0) (o_Surroundings_len T) (fun _ _ _ _ _ _ _ h => h.elim) hr) boot_len (pa_cons (pv 0) pa_nil)) (pcb (z_len T) call_len_seq boot_len (pa_cons (pv 2) pa_nil)) (nomark _)))))
      (pss_one (ps_ret pe_bl))
      pss_nil)
    (pss_cons (ps_if (PW.pt (pw_or (pt_not (pt_val (pcb (z_all T) (cr_all rfl) boot_all (pa_cons (pe_lc (own := [("_law_key", 3)]) rfl sc_law_stands.nd (pi_list (pv 2)) (blkOk_by (own := [("_law_key", 3)]) (N := ["_law_place", "_law_values_here", "_law_names", "_law_key"]) (sc := defScope s_law_stands) (by decide +kernel)) (fun _ _ _ _ _ => (pg_name (i := 3) sc_law_stands.nd rfl (Or.inl rfl) (Or.inr rfl))) (fun _ _ _ _ _ => pts_nil) (fun _ _ _ _ _ => (pe_cmpR (op_inO (E := E0) (o_Surroundings_contains T) (fun _ _ _ _ _ _ _ h => h.elim) hr) (pv 3) (pv 0) rfl))) pa_nil)))) (pw_or1 (pt_cmpR (op_inO (E := E0) (o_Surroundings_contains T) (fun _ _ _ _ _ _ _ h => h.elim) hr) pe_str (pv 0) rfl))))
      (pss_one (ps_ret pe_bl))
      pss_nil)
    (pss_one (ps_ret (pe_and (pc (c_law_like T 3) hr (pa_cons (pmt0 (c_Surroundings_state T) hr (pv 0)) (pa_cons (pct (z_tuple T) call_tuple_of boot_tuple (pa_cons (pe_lc (own := [("_law_key", 3)]) rfl sc_law_stands.nd (pi_list (pv 2)) (blkOk_by (own := [("_law_key", 3)]) (N := ["_law_place", "_law_values_here", "_law_names", "_law_key"]) (sc := defScope s_law_stands) (by decide +kernel)) (fun _ _ _ _ _ => (pg_name (i := 3) sc_law_stands.nd rfl (Or.inl rfl) (Or.inr rfl))) (fun _ _ _ _ _ => pts_nil) (fun _ _ _ _ _ => (pe_dget (hu_of hr) (pv 1) (pv 3) (fun _ _ => rfl)))) pa_nil)) pa_nil))) (pe_one (pe_cmpR (op_ownEq (o_Surroundings_eq T) hr) (pv 0) (pmk (c_Surroundings_init T) hr (pa_cons (pv 1) pa_nil)) (nomark _))))))))), ?_⟩
  obtain ⟨⟨dx, p, ha, hp, okm, sm⟩, l1, l4⟩ := id sa
  have nv : (wKeys vm).Nodup := ov.1.2
  have lv : (wKeys vm).length = vm.length := List.length_map ..
  have lm : (wKeys m).length = m.length := List.length_map ..
  have lmv := pm.length_eq
  have l3 := ov.2.2
  refine ⟨_, rfl, v, mK vm, wKeys vm, rfl, .of hv, by unfold mK wKeys; rw [List.map_map, List.map_map]; rfl, by rw [lv]; omega, fun ys nm hperm hsort hnm => ?_⟩
  have eys : ys = wKeys m := pw_one (sorted_pw hsort) (sorted_pw sm) (hperm.nodup_iff.mpr nv) okm.2 fun k => by rw [hperm.mem_iff]; exact (List.Perm.map (fun q : Str × Int => q.1) pm).mem_iff.symm
  rw [eys]
  have s1 := smNew1 hnm (.lst ((wKeys m).map V.str))
  refine ⟨_, rfl, a, dx, _, rfl, s1 _ _ ha, rfl, a, m, rfl, sa.keep s1, fun k1 H1 e1 nk hk1 => ?_⟩
  refine ⟨_, rfl, nm, _, rfl, .inl ⟨SqL.of (e1 _ _ upd_same), fun t1 ht1 => ?_⟩⟩
  have s2 := s1.trans (e1.trans (smNew1 ht1 (.tup ((wKeys m).map V.str))))
  have hk2 : (upd H1 t1 (.tup ((wKeys m).map V.str))) k1 = some (.tup ((wKeys m).map V.str)) := by
    rw [upd_ne (ne_of_none hk1 ht1), hk1]
    unfold wKeys
    rw [List.map_map]
    rfl
  refine ⟨.tuple ((wKeys m).map .str), .tup (SqT.of hk2) (strs_dpK _), .tup (SqT.of upd_same) (strs_dpK _), strs_thin (by omega), strs_deep _, fun H2 e2 => ?_⟩
  have s3 := s2.trans e2
  refine ⟨_, rfl, ifF rfl ?_⟩
  have nm3 : H2 nm = some (.lst ((wKeys m).map V.str)) := e2 _ _ ((smNew1 ht1 _) _ _ (e1 _ _ upd_same))
  refine ⟨_, rfl, a, dx, _, rfl, s3 _ _ ha, a, m, rfl, sa.keep s3, _, rfl, by omega, by omega, ?_⟩
  refine ⟨_, rfl, nm, _, rfl, .inl (SqL.of nm3), rfl, ?_⟩
  rw [show ((wKeys m).map V.str).length = m.length by rw [List.length_map, lm]]
  refine ⟨_, rfl, ifF (by simp) ?_⟩
  -- all(..)
  refine ⟨_, rfl, nm, rfl, ⟨_, SqL.of nm3⟩, fun D nD => ?_⟩
  refine lc_opt (walk_list (xs := (wKeys m).map V.str)) (fun (v : Bool) y _ => y = .bl v) (fun i => ((wKeys m)[i]?).map fun _ => true) nD (small1000 (by rw [List.length_map, lm]; omega)) (fun H' e => SqL.of (e _ _ nm3)) (fun _ _ _ _ h _ => h) (fun _ _ _ _ _ h _ => h) ?_ ?_
  · rintro i x H3 H4 N hi e ⟨rfl, hx⟩ hk _
    rw [List.getElem?_map] at hx
    obtain ⟨k, hk1, rfl⟩ := Option.map_eq_some_iff.mp hx
    refine ⟨rfl, yesI ⟨_, rfl, _, rfl, a, dx, _, rfl, e _ _ (s3 _ _ ha), a, m, k, rfl, rfl, sa.keep (s3.trans e), _, rfl, ?_⟩⟩
    refine hk _ _ true (by rw [hk1]; rfl) (Same.refl _) ?_
    rw [decide_eq_true (List.mem_of_getElem? hk1)]
    rfl
  intro H3 ys3 e3 hD hp'
  rw [List.length_map, map_atK] at hp'
  have hys := paired_eq hp'
  have s4 := s3.trans e3
  refine ⟨D, _, rfl, SqL.of (by rw [hD, hys]), _, rfl, ?_⟩
  rw [show ((wKeys m).map fun _ => true).all id = true by simp]
  refine ifF rfl ?_
  have lost : ("lost" : Str) ∉ wKeys m := fun z => no.1 ((List.Perm.map (fun q : Str × Int => q.1) pm).mem_iff.mp z)
  refine ⟨_, rfl, a, dx, _, rfl, s4 _ _ ha, a, m, _, rfl, rfl, sa.keep s4, _, rfl, _, rfl, ?_⟩
  rw [decide_eq_false lost]
  refine ifF rfl ?_
  -- the state
  refine ⟨_, rfl, a, dx, _, rfl, s4 _ _ ha, rfl, a, m, rfl, (sa.keep s4).1, l4, fun k4 H4 e4 hk4 => ?_⟩
  have nm4 : H4 nm = some (.lst ((wKeys m).map V.str)) := e4 _ _ (e3 _ _ nm3)
  have s5 := s4.trans e4
  refine ⟨_, rfl, nm, rfl, ⟨_, SqL.of nm4⟩, fun D2 nD2 => ?_⟩
  refine lc_opt (walk_list (xs := (wKeys m).map V.str)) (fun (v : Int) y _ => y = .int v) (fun i => (m[i]?).map fun q => q.2) nD2 (small1000 (by rw [List.length_map, lm]; omega)) (fun H' e => SqL.of (e _ _ nm4)) (fun _ _ _ _ h _ => h) (fun _ _ _ _ _ h _ => h) ?_ ?_
  · rintro i x H5 H6 N hi e ⟨rfl, hx⟩ hk _
    rw [List.getElem?_map] at hx
    obtain ⟨k, hk1, rfl⟩ := Option.map_eq_some_iff.mp hx
    obtain ⟨q5, hq5, rfl⟩ := List.mem_map.mp (List.mem_of_getElem? hk1)
    unfold wKeys at hk1
    rw [List.getElem?_map] at hk1
    obtain ⟨q6, hq6, e6⟩ := Option.map_eq_some_iff.mp hk1
    have m6 := List.mem_of_getElem? hq6
    have g6 : wGet vm q6.1 = some q6.2 := by rw [← wGet_perm nv pm, wGet_mem okm.2 m6]
    refine ⟨rfl, yesI ⟨_, rfl, _, rfl, v, .int q6.2, rfl, .inl ⟨mK vm, .inr q5.1, .of (e _ _ (s5 _ _ hv)), rfl, by rw [valV_get, ← e6, g6]; rfl⟩, ?_⟩⟩
    exact hk _ _ q6.2 (by rw [hq6]; rfl) (Same.refl _) rfl
  intro H5 ys5 e5 hD5 hp5
  rw [List.length_map, lm, map_atK] at hp5
  have hys5 := paired_eq hp5
  have s6 := s5.trans e5
  refine ⟨D2, _, rfl, .inl ⟨SqL.of hD5, fun t2 ht2 => ?_⟩⟩
  have s7 := s6.trans (smNew1 ht2 (.tup ys5))
  refine ⟨.tuple ((m.map fun q => q.2).map .int), .tup (SqT.of (xs := (m.map fun q => q.2).map V.int) (by rw [upd_ne (ne_of_none (e5 _ _ hk4) ht2), e5 _ _ hk4, List.map_map]; rfl)) (ints_dpK _), .tup (SqT.of (by rw [upd_same, hys5])) (ints_dpK _), ints_thin (by rw [List.length_map]; omega), ints_deep _, fun H6 e6 => ?_⟩
  have s8 := s7.trans e6
  refine ⟨_, rfl, ifT rfl ?_⟩
  refine ⟨_, rfl, _, rfl, ?_⟩
  intro x dx2 hx hdx hne
  have mI := mk_in (C := He.ga K "Surroundings") hx hdx hne
  refine ⟨x, dx2, v, vm, rfl, rfl, upd_same, mI _ _ (s8 _ _ hv), ov.1, ov.2.1, by omega, fun H7 m2 off mp pm2 => ⟨rfl, ?_⟩⟩
  have s9 := s8.trans (mk_sm hx hdx off)
  have e2 : m2 = m := by
    obtain ⟨_, _, _, _, _, s2⟩ := id mp
    exact sort_one (pm2.trans pm.symm) okm.2 sm s2
  subst e2
  obtain ⟨dy, p7, h71, h72, h73⟩ := id mp
  exact ⟨a, x, dx, dy, _, _, rfl, rfl, s9 _ _ ha, h71, a, x, m2, rfl, rfl, sa.keep s9, ⟨mp, l1, l4⟩, q H7 s9⟩
end
end RM

set_option Elab.async false
set_option linter.all false
set_option maxRecDepth 100000
set_option maxHeartbeats 4000000
set_option pp.maxSteps 600
set_option pp.deepTerms false
namespace RM
open PySem PySem.Spec PyProof.Rows L2
def six : List V := [.int 5, .int (-99), .int 100, .bl true, .non, .str "1"]
def inTwo (d : PyData) : Bool := [PyData.int 5, .int (-99)].any fun e => PyData.eqv e d
theorem one_lay : PyData.strOk ("1" : Str) = true := by decide +kernel
theorem value_ok : PyData.strOk ("value" : Str) = true := by decide +kernel
theorem value_lay {dz : PyData} (h : dz.canLay0 = true) : (PyData.tuple [.str "value", dz]).canLay0 = true := by
  simp only [PyData.canLay0, PyData.canLayAll0, value_ok, h, Bool.and_self]
theorem value_sh {dz : PyData} (h : dz.canLay0 = true) (hd : dz.depth = 0) : SeqAt.shaped (.tuple [.str "value", dz]) = true := by
  unfold SeqAt.shaped
  rw [value_lay h, decide_eq_true (by show max (PyData.depth (.str "value")) (max dz.depth 0) + 1 ≤ 64; rw [hd]; decide)]
  rfl
theorem flat_sh {dz : PyData} (h : dz.canLay0 = true) (hd : dz.depth = 0) : SeqAt.shaped dz = true := by
  unfold SeqAt.shaped
  rw [h, hd]
  rfl
/-- a wrong value -/
structure Wrong (z : V) (dz : PyData) : Prop where
  dp : ∀ K H, Dp K H z dz
  lay : dz.canLay0 = true
  flat : dz.depth = 0
  no : inTwo dz = false
  wr : ∀ K H, wrongV K H z
theorem six_is {r : Nat} {z : V} (h : six[r]? = some z) : (∃ n, z = .int n ∧ isValue n = true ∧ inTwo (.int n) = true) ∨ ∃ dz, Wrong z dz := by
  match r, h with
  | 0, h => cases h; exact .inl ⟨5, rfl, rfl, by decide +kernel⟩
  | 1, h => cases h; exact .inl ⟨-99, rfl, rfl, by decide +kernel⟩
  | 2, h => cases h; exact .inr ⟨.int 100, fun _ _ => .int _, rfl, rfl, by decide +kernel, fun _ _ => .inl ⟨100, rfl, rfl⟩⟩
  | 3, h => cases h; exact .inr ⟨.bool true, fun _ _ => .bl _, rfl, rfl, by decide +kernel, fun _ _ => .inr ⟨.bool true, .bl _, rfl⟩⟩
  | 4, h => cases h; exact .inr ⟨.none, fun _ _ => .non, rfl, rfl, by decide +kernel, fun _ _ => .inr ⟨.none, .non, rfl⟩⟩
  | 5, h => cases h; exact .inr ⟨.str "1", fun _ _ => .str _, one_lay, rfl, by decide +kernel, fun _ _ => .inr ⟨.str "1", .str _, rfl⟩⟩
  | _ + 6, h => cases h
structure StA (K : PySem.W.Frag) (H : Hp) (d sc a v : Addr) (m vm : WM) : Prop where
  dr : DrawAt K H d sc
  at_ : ∃ dx p, H a = some (.ins (He.ga K "Surroundings") dx [("now", .ref p)]) ∧ H p = some (.dK (mK m)) ∧ p ≠ v
  ok : okM m ∧ sortedS (wKeys m) = true
  hv : H v = some (.dK (mK vm))
  pm : m.Perm vm
  ov : okV vm
  no : noOdd vm
section
variable {K : PySem.W.Frag} {H H' : Hp} {d sc a v : Addr} {m vm : WM}
theorem StA.sur (h : StA K H d sc a v m vm) : SurAt K H a m := by
  obtain ⟨dx, p, h1, h2, _⟩ := h.at_
  have l := h.pm.length_eq
  exact ⟨⟨dx, p, h1, h2, h.ok⟩, by rw [l]; exact h.ov.2.1, by rw [l]; have := h.ov.2.2; omega⟩
theorem not_d {b : Addr} {o : HO} (h : DrawAt K H d sc) (hb : H b = some o) (ho : ∀ xs, o ≠ .lst xs) : b ≠ d := fun z => by
  obtain ⟨⟨_, _, _, h1, _⟩, _⟩ := h
  rw [z, h1] at hb
  exact ho _ (Option.some.inj hb).symm
theorem StA.but (h : StA K H d sc a v m vm) (b : But d H H') (dr : DrawAt K H' d sc) : StA K H' d sc a v m vm := by
  obtain ⟨dx, p, h1, h2, h3⟩ := h.at_
  exact ⟨dr, ⟨dx, p, b.get (not_d h.dr h1 (fun _ z => by cases z)) h1, b.get (not_d h.dr h2 (fun _ z => by cases z)) h2, h3⟩, h.ok, b.get (not_d h.dr h.hv (fun _ z => by cases z)) h.hv, h.pm, h.ov, h.no⟩
theorem StA.keep (h : StA K H d sc a v m vm) (e : Same H H') : StA K H' d sc a v m vm := h.but (but_sm e) (h.dr.keep e)
end
theorem StA.put {K : PySem.W.Frag} {H : Hp} {d sc a v dx p : Addr} {m vm : WM} (h : StA K H d sc a v m vm) (ha : H a = some (.ins (He.ga K "Surroundings") dx [("now", .ref p)])) (hp : H p = some (.dK (mK m))) (pv : p ≠ v) {k : Str} (hk : k ∈ wKeys vm) {n : Int} (hn : isValue n = true) :
    StA K (upd (upd H v (.dK (mK (wPut vm k n)))) p (.dK (mK (wPut m k n)))) d sc a v (wPut m k n) (wPut vm k n) := by
  have km : k ∈ wKeys m := (List.Perm.map (fun q : Str × Int => q.1) h.pm).mem_iff.mpr hk
  obtain ⟨q, hq, rfl⟩ := List.mem_map.mp hk
  have wk := (h.ov.1.1 q hq).1
  have av : a ≠ v := fun z => by rw [z, h.hv] at ha; cases ha
  have ap : a ≠ p := fun z => by rw [z, hp] at ha; cases ha
  have e1 : wKeys (wPut m q.1 n) = wKeys m := by rw [wKeys_put, if_pos km]
  have e2 : wKeys (wPut vm q.1 n) = wKeys vm := by rw [wKeys_put, if_pos hk]
  have l2 := len_keys e2
  have hp' : (upd H v (.dK (mK (wPut vm q.1 n)))) p = some (.dK (mK m)) := by rw [upd_ne pv]; exact hp
  refine ⟨(h.dr.dk h.hv).dk hp', ⟨dx, p, by rw [upd_ne ap, upd_ne av]; exact ha, upd_same, pv⟩, ⟨okM_put h.ok.1 wk hn, by rw [e1]; exact h.ok.2⟩, by rw [upd_ne pv.symm, upd_same], perm_put h.pm h.ov.1.2 _ _, ⟨okM_put h.ov.1 wk hn, by rw [l2]; exact h.ov.2.1, by rw [l2]; exact h.ov.2.2⟩, ?_⟩
  unfold noOdd
  rw [e2]
  exact h.no
theorem ChgAt.but {K : PySem.W.Frag} {H H' : Hp} {d sc a : Addr} {m : WM} (dr : DrawAt K H d sc) (b : But d H H') (h : ChgAt K H a m) : ChgAt K H' a m := by
  obtain ⟨⟨dx, p, h1, h2, h3⟩, l⟩ := h
  exact ⟨⟨dx, p, b.get (not_d dr h1 (fun _ z => by cases z)) h1, b.get (not_d dr h2 (fun _ z => by cases z)) h2, h3⟩, l⟩
theorem good_lay : ∀ z ∈ (["good", "key", "lost", "value"] : List Str), PyData.strOk z = true := by decide +kernel
theorem tup2_shaped {x y : PyData} (h : (PyData.tuple [x, y]).canLay0 = true) (hd : (PyData.tuple [x, y]).depth ≤ 64) : SeqAt.shaped (.tuple [x, y]) = true := by
  unfold SeqAt.shaped
  rw [h, decide_eq_true hd]
  rfl
theorem keyLost_lay : (PyData.tuple [.str "key", .str "lost"]).canLay0 = true := by
  simp only [PyData.canLay0, PyData.canLayAll0, good_lay "key" (by decide), good_lay "lost" (by decide), Bool.and_self]
theorem keyLost_sh : SeqAt.shaped (.tuple [.str "key", .str "lost"]) = true := tup2_shaped keyLost_lay (by decide)
theorem keyLost_eq : PyData.eqv (.tuple [.str "key", .str "lost"]) (.tuple [.str "key", .str "lost"]) = true := SeqAt.eqv_refl _ keyLost_lay
theorem good_one : (PyData.tuple [.str "good"]).canLay0 = true := by
  simp only [PyData.canLay0, PyData.canLayAll0, good_lay "good" (by decide), Bool.and_self]
theorem good_sh : SeqAt.shaped (.tuple [.str "good"]) = true := by
  unfold SeqAt.shaped
  rw [good_one]
  rfl
theorem two_sh : SeqAt.shaped (.list [.int 5, .int (-99)]) = true := by decide +kernel
theorem op_alt {X : Cx} {f : Value → Value → Sem Value} {r1 r2 : R2} (a : OpR X f r1) (b : OpR X f r2) : OpR X f (fun x y H Q => r1 x y H Q ∨ r2 x y H Q) := fun pins s σ H x y v u Q I rx ry h => h.elim (a pins s σ H x y v u Q I rx ry) (b pins s σ H x y v u Q I rx ry)
def odd2 : WM := [("lost", 1), ("zz", 2)]
theorem odd2_ok : okM odd2 := ⟨by decide +kernel, by decide +kernel⟩
theorem odd2_keys : wKeys odd2 = [("lost" : Str), ("zz" : Str)] := rfl
theorem over_keys (m g : WM) (k : Str) : k ∈ wKeys (wOver m g) ↔ k ∈ wKeys m ∨ k ∈ wKeys g := by
  unfold wOver
  induction g generalizing m with
  | nil => simp [wKeys]
  | cons q r ih =>
    rw [List.foldl_cons, ih, wKeys_put]
    have e : wKeys (q :: r) = q.1 :: wKeys r := rfl
    rw [e, List.mem_cons]
    by_cases h : q.1 ∈ wKeys m
    · rw [if_pos h]
      constructor
      · rintro (z | z)
        · exact .inl z
        · exact .inr (.inr z)
      · rintro (z | rfl | z)
        · exact .inl z
        · exact .inl h
        · exact .inr z
    · rw [if_neg h, List.mem_append, List.mem_singleton, or_assoc]
section
variable {P : Program} {w : World} {K : PySem.W.Frag} {mg : Str → Option Value} {base : Heap}
/-! ### _law_given -/
def okC2 (vm g : WM) : Prop := okM g ∧ g.length ≤ 4 ∧ (∀ k ∈ wKeys g, k ∈ wKeys vm ∨ k = ("lost" : Str) ∨ k = ("zz" : Str)) ∧ (("zz" : Str) ∈ wKeys g → ("lost" : Str) ∈ wKeys g)
def spGiven (K : PySem.W.Frag) : Sp := fun vs H Q _ => match vs with
  | [x, y] => ∃ d sc v vm, x = .ref d ∧ y = .ref v ∧ DrawAt K H d sc ∧ H v = some (.dK (mK vm)) ∧ okV vm ∧ noOdd vm ∧ ∀ c g H', But d H H' → DrawAt K H' d sc → H' c = some (.dK (mK g)) → okC2 vm g → Q (.ref c) H'
  | _ => False
theorem sc_law_given : FnScope ["_law_draws", "_law_values_here", "_law_given_here", "_law_change"] ["_law_draws", "_law_values_here"] (defScope s_law_given) := ⟨rfl, rfl, rfl, by decide +kernel, rfl, by decide +kernel, by decide +kernel⟩
theorem c_law_given (T : Top w K mg) : Cal P w K mg base CX0 3 "_law_given" (spGiven K) := by
  refine cal_0 (f_law_given T) (g_law_given T) sc_law_given (fun _ _ _ _ _ _ us hl => match us, hl with | [_, _], _ => rfl) (fun vs H Q E h => match vs, h with | [_, _], _ => rfl) (fun cdv A outer s H vs Q E hr h => ?_)
  match vs, h with
  | [x, y], h =>
  obtain ⟨d, sc, v, vm, rfl, rfl, dr, hv, ov, no, q⟩ := h
  refine ⟨_, (pss_cons (ps_set (i := 2) sc_law_given.nd rfl (Or.inl rfl) (pc (c_law_changes T) hr (pa_cons (pv 0) (pa_cons (pv 1) (pa_cons pe_int pa_nil)))))
    (pss_cons (ps_set (i := 3) sc_law_given.nd rfl (Or.inl rfl) pe_dnewK)
    (pss_cons (ps_mid (ps_if (pt_cmpR op_gt (pcb (z_len T) call_len_seq boot_len (pa_cons (pv 2) pa_nil)) pe_int (nomark _))
      (pss_one (ps_set (i := 3) sc_law_given.nd rfl (Or.inl rfl) (pe_ix ix_list (pv 2) pe_int (fun _ _ => rfl))))
      pss_nil))
    (pss_cons (ps_if (pt_cmpR op_eq (pc (c_law_draw T) hr (pa_cons (pv 0) (pa_cons pe_int pa_nil))) pe_int (nomark _))
      (pss_one (ps_set (i := 3) sc_law_given.nd rfl (Or.inl rfl) (pc (c_law_over T) hr (pa_cons (pv 3) (pa_cons (pe_disp (pps_cons pe_str pe_int (pps_cons pe_str pe_int pps_nil)) (by rfl) (by rfl) (fun z => by cases z) (by decide)) pa_nil)))))
      pss_nil)
    (pss_one (ps_ret (pv 3))))))), ?_⟩
  refine ⟨_, rfl, _, rfl, d, sc, v, vm, 1, rfl, rfl, rfl, by decide, dr, hv, ov, fun r cv gs H1 b1 d1 nr hr1 pg lg => ?_⟩
  intro c0 nc0
  have e0 := smNew1 nc0 (.dK [])
  have hv1 : H1 v = some (.dK (mK vm)) := b1.get (not_d dr hv (fun _ z => by cases z)) hv
  refine ⟨fun σ' H' => ∃ c g, H' = upd H1 c0 (.dK []) ∧ H' c = some (.dK (mK g)) ∧ okG (wKeys vm) g ∧ σ' = [some (.ref d), some (.ref v), some (.ref r), some (.ref c)], ?_, ?_⟩
  · refine ⟨_, rfl, r, _, rfl, .inl (SqL.of (e0 _ _ hr1)), _, _, rfl, rfl, _, rfl, ?_⟩
    cases pg with
    | nil => exact ifF rfl ⟨c0, [], rfl, upd_same, ⟨⟨fun q hq => by simp at hq, List.nodup_nil⟩, fun k hk => by simp [wKeys] at hk, Nat.zero_le _⟩, rfl⟩
    | cons hg rest =>
      rename_i c g cv gs
      refine ifT (decide_eq_true (by rw [List.length_map]; show (0 : Int) < ((cv.length + 1 : Nat) : Int); omega)) ?_
      exact ⟨_, rfl, r, _, _, .ref c, rfl, rfl, SqL.of (e0 _ _ hr1), at0, c, g, rfl, e0 _ _ hg.1, hg.2.2, rfl⟩
  · rintro σ' H' ⟨c, g, rfl, hcg, og, rfl⟩
    have d2 := d1.keep e0
    refine ⟨_, rfl, d, sc, 5, rfl, rfl, d2, by decide, by decide, fun i H3 i0 i1 b3 d3 => ?_⟩
    have hc3 := b3.get (not_d d2 hcg (fun _ z => by cases z)) hcg
    have bb := b1.trans ((but_sm e0).trans b3)
    have gl := og.2.2
    refine ⟨rfl, _, rfl, ?_⟩
    refine ifB (fun hi => ?_) (fun hi => ?_)
    · refine ⟨_, rfl, fun p hp => ⟨upd_same, [(.inr "lost", .int 1), (.inr "zz", .int 2)], rfl, by decide, ?_⟩⟩
      have pr : mergeK [] [((Sum.inr ("lost" : Str) : Key), V.int 1), (Sum.inr ("zz" : Str), V.int 2)] = mK odd2 := merge_nil (m := odd2) odd2_ok.2
      rw [pr]
      have two : upd (upd H3 p (.dK [])) p (.dK (mK odd2)) = upd H3 p (.dK (mK odd2)) := upd_upd
      rw [two]
      have s4 := smNew1 hp (.dK (mK odd2))
      refine ⟨c, p, g, odd2, rfl, rfl, s4 _ _ hc3, upd_same, odd2_ok.2, by omega, by decide, fun p2 H5 e5 np2 hp2 => ?_⟩
      have e6 := s4.trans e5
      refine ⟨_, rfl, q p2 (wOver g odd2) H5 (bb.trans (but_sm e6)) (d3.keep e6) hp2 ⟨okM_over og.1 odd2_ok.1, ?_, fun k hk => ?_, fun _ => (over_keys g odd2 _).mpr (.inr (by rw [odd2_keys]; exact List.mem_cons_self))⟩⟩
      · have := len_over' g odd2
        have : odd2.length = 2 := rfl
        omega
      · rcases (over_keys g odd2 k).mp hk with z | z
        · exact .inl (og.2.1 k z)
        · rw [odd2_keys] at z
          rcases List.mem_cons.mp z with z | z
          · exact .inr (.inl z)
          · exact .inr (.inr (List.mem_singleton.mp z))
    · exact ⟨_, rfl, q c g H3 bb d3 hc3 ⟨og.1, by omega, fun k hk => .inl (og.2.1 k hk), fun z => absurd (og.2.1 _ z) no.2⟩⟩
/-! ### _law_sum_good -/
def spSumG (K : PySem.W.Frag) : Sp := fun vs H Q _ => match vs with
  | [x, y, z, u] => ∃ d sc a v m vm c g, x = .ref d ∧ y = .ref a ∧ z = .ref v ∧ u = .ref c ∧ StA K H d sc a v m vm ∧ H c = some (.dK (mK g)) ∧ okC2 vm g ∧ ∀ H', StA K H' d sc a v m vm → Q (.bl true) H'
  | _ => False
theorem sc_law_sum_good : FnScope ["_law_draws", "_law_place", "_law_values_here", "_law_change", "_law_told"] ["_law_draws", "_law_place", "_law_values_here", "_law_change"] (defScope s_law_sum_good) := ⟨rfl, rfl, rfl, by decide +kernel, rfl, by decide +kernel, by decide +kernel⟩
theorem c_law_sum_good (T : Top w K mg) : Cal P w K mg base CX0 24 "_law_sum_good" (spSumG K) := by
  refine cal_0 (f_law_sum_good T) (g_law_sum_good T) sc_law_sum_good (fun _ _ _ _ _ _ us hl => match us, hl with | [_, _, _, _], _ => rfl) (fun vs H Q E h => match vs, h with | [_, _, _, _], _ => rfl) (fun cdv A outer s H vs Q E hr h => ?_)
  match vs, h with
  | [x, y, z, u], h =>
  obtain ⟨d, sc, a, v, m, vm, c, g, rfl, rfl, rfl, rfl, st, hc, okc, q⟩ := h
  refine ⟨_, (pss_cons (ps_set (i := 4) sc_law_sum_good.nd rfl (Or.inl rfl) (pc (c_law_sum T) hr (pa_cons (pv 1) (pa_cons (pmk (c_Change_init T) hr (pa_cons (pv 3) pa_nil)) (pa_cons (pc (c_law_draw T) hr (pa_cons (pv 0) (pa_cons pe_int pa_nil))) pa_nil)))))
    (pss_cons (ps_if (pt_cmp (pc_din (hu_of hr) pe_str (pv 3)))
      (pss_one (ps_ret (pe_cmpR (op_eqD (room64 hr)) (pv 4) (pe_tup (pa_cons pe_str (pa_cons pe_str pa_nil))) (nomark _))))
      pss_nil)
    (pss_one (ps_ret (pc (c_law_stands T) hr (pa_cons (pv 4) (pa_cons (pc (c_law_over T) hr (pa_cons (pv 2) (pa_cons (pv 3) pa_nil))) pa_nil))))))), ?_⟩
  refine ⟨_, rfl, _, rfl, ?_⟩
  intro x dx2 hx hdx hne
  have mI := mk_in (C := He.ga K "Change") hx hdx hne
  refine ⟨x, dx2, c, g, rfl, rfl, upd_same, mI _ _ hc, okc.1, Nat.zero_le _, okc.2.1, fun H1 g' off mp pg => ⟨rfl, ?_⟩⟩
  have s1 := mk_sm hx hdx off
  have st1 := st.keep s1
  refine ⟨_, rfl, d, sc, 2, rfl, rfl, st1.dr, by decide, by decide, fun i H2 i0 i1 b2 d2 => ?_⟩
  have st2 := st1.but b2 d2
  have ch2 : ChgAt K H2 x g' := ChgAt.but st1.dr b2 ⟨mp, by rw [pg.length_eq]; exact okc.2.1⟩
  have hc2 : H2 c = some (.dK (mK g)) := b2.get (not_d st1.dr (s1 _ _ hc) (fun _ z => by cases z)) (s1 _ _ hc)
  have kg : ∀ k, k ∈ wKeys g' ↔ k ∈ wKeys g := fun k => (List.Perm.map (fun q : Str × Int => q.1) pg).mem_iff
  have kv : ∀ k, k ∈ wKeys m ↔ k ∈ wKeys vm := fun k => (List.Perm.map (fun q : Str × Int => q.1) st.pm).mem_iff
  by_cases hl : ("lost" : Str) ∈ wKeys g
  · have lk : lack m g' = some ("lost" : Str) := lack_lost ch2.ok.2 ((kg _).mpr hl) (fun z => st.no.1 ((kv _).mp z)) fun k hk => by
      rcases okc.2.2.1 k ((kg k).mp hk) with z | z
      · exact .inl ((kv k).mpr z)
      · exact .inr z
    refine ⟨a, x, m, g', i, rfl, rfl, rfl, st2.sur, ch2, (fun nl => by rw [lk] at nl; cases nl), fun k hk t H3 e3 ht => ?_⟩
    rw [lk] at hk
    cases hk
    refine ⟨_, rfl, c, _, rfl, .inl ⟨mK g, .inr "lost", .of (e3 _ _ hc2), rfl, rfl⟩, _, rfl, ?_⟩
    rw [valV_get]
    refine ifT (by
      cases e : wGet g "lost" with
      | none => exact absurd hl (wGet_none.mp e)
      | some n => rfl) ?_
    refine ⟨_, rfl, (by show 2 ≤ sizeLine; decide), fun t2 ht2 => ?_⟩
    refine ⟨.tuple [.str "key", .str "lost"], .tuple [.str "key", .str "lost"], .tup (SqT.of (by rw [upd_ne (ne_of_none ht ht2)]; exact ht)) (.cons (.str _) (.cons (.str _) .nil)), .tup (SqT.of upd_same) (.cons (.str _) (.cons (.str _) .nil)), keyLost_sh, keyLost_sh, ?_⟩
    rw [keyLost_eq]
    exact q _ (st2.keep (smNew e3 ht2 _))
  · have ki : ∀ k ∈ wKeys g', k ∈ wKeys m := fun k hk => by
      have hk' := (kg k).mp hk
      rcases okc.2.2.1 k hk' with z | z | z
      · exact (kv k).mpr z
      · exact absurd (z ▸ hk') hl
      · exact absurd (okc.2.2.2 (z ▸ hk')) hl
    have lk : lack m g' = none := lack_in ki
    refine ⟨a, x, m, g', i, rfl, rfl, rfl, st2.sur, ch2, fun nl p H3 e3 np sp3 => ?_, fun k hk => by rw [lk] at hk; cases hk⟩
    refine ⟨_, rfl, c, _, rfl, .inl ⟨mK g, .inr "lost", .of (e3 _ _ hc2), rfl, rfl⟩, _, rfl, ?_⟩
    rw [valV_get, wGet_none.mpr hl]
    refine ifF rfl ?_
    have st3 := st2.keep e3
    have l3 := st.ov.2.2
    refine ⟨_, rfl, _, rfl, _, rfl, v, c, vm, g, rfl, rfl, st3.hv, e3 _ _ hc2, okc.1.2, by omega, by have := okc.2.1; omega, fun p4 H4 e4 np4 hp4 => ?_⟩
    refine ⟨p, p4, wOver m g', wOver vm g, rfl, rfl, sp3.keep e4, hp4, perm_over st.pm pg st.ov.1.2 okc.1.2, ?_, ?_, fun H5 e5 => ?_⟩
    · have kk : wKeys (wOver vm g) = wKeys vm := wKeys_over fun k hk => (kv k).mp (ki k ((kg k).mpr hk))
      have ll := len_keys kk
      exact ⟨okM_over st.ov.1 okc.1.1, by rw [ll]; exact st.ov.2.1, by rw [ll]; exact st.ov.2.2⟩
    · have kk : wKeys (wOver vm g) = wKeys vm := wKeys_over fun k hk => (kv k).mp (ki k ((kg k).mpr hk))
      unfold noOdd
      rw [kk]
      exact st.no
    · exact q _ (st3.keep (e4.trans e5))
/-! ### _law_set_good -/
def spSetG (K : PySem.W.Frag) : Sp := fun vs H Q _ => match vs with
  | [x, y, z, u] => ∃ d sc a v m vm k, x = .ref d ∧ y = .ref a ∧ z = .ref v ∧ u = .str k ∧ StA K H d sc a v m vm ∧ (k = ("lost" : Str) ∨ k ∈ wKeys vm) ∧ ∀ m' vm' H', StA K H' d sc a v m' vm' → Q (.bl true) H'
  | _ => False
theorem sc_law_set_good : FnScope ["_law_draws", "_law_place", "_law_values_here", "_law_key", "_law_value", "_law_due"] ["_law_draws", "_law_place", "_law_values_here", "_law_key"] (defScope s_law_set_good) := ⟨rfl, rfl, rfl, by decide +kernel, rfl, by decide +kernel, by decide +kernel⟩
theorem c_law_set_good (T : Top w K mg) : Cal P w K mg base CX0 6 "_law_set_good" (spSetG K) := by
  refine cal_0 (f_law_set_good T) (g_law_set_good T) sc_law_set_good (fun _ _ _ _ _ _ us hl => match us, hl with | [_, _, _, _], _ => rfl) (fun vs H Q E h => match vs, h with | [_, _, _, _], _ => rfl) (fun cdv A outer s H vs Q E hr h => ?_)
  match vs, h with
  | [x, y, z, u], h =>
  obtain ⟨d, sc, a, v, m, vm, k, rfl, rfl, rfl, rfl, st, hk, q⟩ := h
  refine ⟨_, (pss_cons (ps_set (i := 4) sc_law_set_good.nd rfl (Or.inl rfl) (pe_ix ix_list (pe_lst (pa_cons pe_int (pa_cons (pe_un un_neg pe_int) (pa_cons pe_int (pa_cons pe_bl (pa_cons pe_non (pa_cons pe_str pa_nil))))))) (pc (c_law_draw T) hr (pa_cons (pv 0) (pa_cons pe_int pa_nil))) (fun _ _ => rfl)))
    (pss_cons (ps_set (i := 5) sc_law_set_good.nd rfl (Or.inl rfl) (pe_tup (pa_cons pe_str pa_nil)))
    (pss_cons (ps_if (pt_cmpR op_eq (pv 3) pe_str (nomark _))
      (pss_one (ps_set (i := 5) sc_law_set_good.nd rfl (Or.inl rfl) (pe_tup (pa_cons pe_str (pa_cons pe_str pa_nil)))))
      (pss_one (ps_if (PW.pt (pw_or (pt_cmpR (op_notInD (room65 hr)) (pv 4) (pe_lst (pa_cons pe_int (pa_cons (pe_un un_neg pe_int) pa_nil))) rfl) (pw_or1 (pt_val (pcb (z_isinstance T) call_isi boot_isinstance (pa_cons (pv 4) (pa_cons (pty (z_bool T) boot_bool) pa_nil)))))))
      (pss_one (ps_set (i := 5) sc_law_set_good.nd rfl (Or.inl rfl) (pe_tup (pa_cons pe_str (pa_cons (pv 4) pa_nil)))))
      (pss_one (ps_dput (hu_of hr) (pv 2) (pv 3) (pv 4) rfl)))))
    (pss_one (ps_ret (pe_cmpR (op_eqD (room64 hr)) (pc (c_law_set T) hr (pa_cons (pv 1) (pa_cons (pv 3) (pa_cons (pv 4) pa_nil)))) (pv 5) (nomark _))))))), ?_⟩
  obtain ⟨dx, p, ha, hp, pv⟩ := st.at_
  have l3 := st.ov.2.2
  have lmv := st.pm.length_eq
  have kv : ∀ k, k ∈ wKeys m ↔ k ∈ wKeys vm := fun k => (List.Perm.map (fun q : Str × Int => q.1) st.pm).mem_iff
  refine ⟨99, rfl, (by show 6 ≤ sizeLine; decide), fun l hl => ?_⟩
  have s1 := smNew1 hl (.lst six)
  have st1 := st.keep s1
  refine ⟨_, rfl, d, sc, 6, rfl, rfl, st1.dr, by decide, by decide, fun r H2 r0 r1 b2 d2 => ?_⟩
  obtain ⟨r, rfl, hr6⟩ := drawn_of r0 r1
  have st2 := st1.but b2 d2
  have ld : l ≠ d := fun z => st.dr.1.ne (by rw [← z]; exact hl)
  have hl2 : H2 l = some (.lst six) := b2.get ld upd_same
  have lsix : r < six.length := by show r < 6; omega
  obtain ⟨z, hz⟩ : ∃ z, six[r]? = some z := ⟨_, List.getElem?_eq_getElem lsix⟩
  refine ⟨l, _, _, z, rfl, rfl, SqL.of hl2, atI_nat hz, (by show 1 ≤ sizeLine; decide), fun t ht => ?_⟩
  have s3 := smNew1 ht (.tup [.str "good"])
  obtain ⟨H3, eH3⟩ : ∃ H3, H3 = upd H2 t (.tup [.str "good"]) := ⟨_, rfl⟩
  rw [← eH3] at s3 ⊢
  have ht3 : H3 t = some (.tup [.str "good"]) := by rw [eH3, upd_same]
  have st3 := st2.keep s3
  obtain ⟨dx3, p3, ha3, hp3, pv3⟩ := st3.at_
  refine ⟨_, rfl, rfl, _, rfl, ?_⟩
  rcases hk with rfl | hk
  · refine ifT (by rfl) ⟨(by show 2 ≤ sizeLine; decide), fun t4 ht4 => ?_⟩
    have s4 := smNew1 ht4 (.tup [.str "key", .str "lost"])
    have st4 := st3.keep s4
    refine ⟨_, rfl, _, rfl, _, rfl, a, dx3, p3, m, _, rfl, rfl, s4 _ _ ha3, s4 _ _ hp3, by omega, fun _ t5 H5 e5 ht5 => ?_, fun yk => absurd ((kv _).mp yk) st.no.1⟩
    refine ⟨_, rfl, .tuple [.str "key", .str "lost"], .tuple [.str "key", .str "lost"], .tup (SqT.of ht5) (.cons (.str _) (.cons (.str _) .nil)), .tup (SqT.of (e5 _ _ upd_same)) (.cons (.str _) (.cons (.str _) .nil)), keyLost_sh, keyLost_sh, ?_⟩
    rw [keyLost_eq]
    exact q _ _ _ (st4.keep e5)
  have knl : k ≠ ("lost" : Str) := fun z => st.no.1 (z ▸ hk)
  refine ifF (by
    show decide (V.str k = V.str ("lost" : Str)) = false
    exact decide_eq_false fun z => knl (V.str.inj z)) ?_
  have km : k ∈ wKeys m := (kv k).mpr hk
  rcases six_is hz with ⟨n, rfl, vn, it⟩ | ⟨dz, wr⟩
  · refine ⟨_, rfl, 99, rfl, (by show 2 ≤ sizeLine; decide), fun l4 hl4 => ?_⟩
    have s4 := smNew1 hl4 (.lst [.int 5, .int (-99)])
    have st4 := st3.keep s4
    refine ⟨.int n, [.int 5, .int (-99)], .int n, .lst (SqL.of upd_same) (.cons (.int _) (.cons (.int _) .nil)), rfl, two_sh, _, rfl, ?_⟩
    rw [show ([PyData.int 5, .int (-99)].any fun e => PyData.eqv e (.int n)) = true from it]
    refine ifF rfl ?_
    refine ⟨_, rfl, _, _, _, _, false, rfl, .ty _, .base (.int _), kit_ty (by decide +kernel), _, rfl, ifF rfl ?_⟩
    obtain ⟨dx4, p4, ha4, hp4, pv4⟩ := st4.at_
    refine ⟨_, rfl, _, rfl, _, rfl, v, _, rfl, .inl ⟨mK vm, .inr k, st4.hv, rfl, small1000 (by rw [mk_len]; omega), rfl⟩, ?_⟩
    rw [putK_w]
    have av4 : a ≠ v := fun z => by rw [z, st4.hv] at ha4; cases ha4
    have tv4 : t ≠ v := fun z => by rw [z, st3.hv] at ht3; cases ht3
    have tp4 : t ≠ p4 := fun z => by rw [← z, s4 _ _ ht3] at hp4; cases hp4
    refine ⟨_, rfl, _, rfl, _, rfl, a, dx4, p4, m, k, rfl, rfl, by rw [upd_ne av4]; exact ha4, by rw [upd_ne pv4]; exact hp4, by omega, fun nk => absurd km nk, fun _ => .inl ⟨n, rfl, vn, fun t6 H6 e6 ht6 => ?_⟩⟩
    refine ⟨_, rfl, .tuple [.str "good"], .tuple [.str "good"], .tup (SqT.of ht6) (.cons (.str _) .nil), .tup (SqT.of (e6 _ _ (by rw [upd_ne tp4, upd_ne tv4]; exact s4 _ _ ht3))) (.cons (.str _) .nil), good_sh, good_sh, ?_⟩
    rw [SeqAt.eqv_refl _ good_one]
    exact q _ _ _ ((st4.put ha4 hp4 pv4 hk vn).keep e6)
  · refine ⟨_, rfl, 99, rfl, (by show 2 ≤ sizeLine; decide), fun l4 hl4 => ?_⟩
    have s4 := smNew1 hl4 (.lst [.int 5, .int (-99)])
    have st4 := st3.keep s4
    refine ⟨dz, [.int 5, .int (-99)], wr.dp _ _, .lst (SqL.of upd_same) (.cons (.int _) (.cons (.int _) .nil)), flat_sh wr.lay wr.flat, two_sh, _, rfl, ?_⟩
    rw [show ([PyData.int 5, .int (-99)].any fun e => PyData.eqv e dz) = false from wr.no]
    refine ifT rfl ?_
    refine ifT rfl ?_
    refine ⟨_, rfl, (by show 2 ≤ sizeLine; decide), fun t5 ht5 => ?_⟩
    have s5 := s4.trans (smNew1 ht5 (.tup [.str "value", z]))
    have st5 := st3.keep s5
    refine ⟨_, rfl, _, rfl, _, rfl, a, dx3, p3, m, k, rfl, rfl, s5 _ _ ha3, s5 _ _ hp3, by omega, fun nk => absurd km nk, fun _ => .inr ⟨wr.wr _ _, fun t6 H6 e6 ht6 => ?_⟩⟩
    refine ⟨_, rfl, .tuple [.str "value", dz], .tuple [.str "value", dz], .tup (SqT.of ht6) (.cons (.str _) (.cons (wr.dp _ _) .nil)), .tup (SqT.of (e6 _ _ upd_same)) (.cons (.str _) (.cons (wr.dp _ _) .nil)), value_sh wr.lay wr.flat, value_sh wr.lay wr.flat, ?_⟩
    rw [SeqAt.eqv_refl _ (value_lay wr.lay)]
    exact q _ _ _ (st5.keep e6)
end
end RM

set_option Elab.async false
set_option linter.all false
set_option maxRecDepth 100000
set_option maxHeartbeats 8000000
set_option pp.maxSteps 600
set_option pp.deepTerms false
namespace RM
open PySem PySem.Spec PyProof.Rows L2
theorem sqL_ins {K : PySem.W.Frag} {H : Hp} {p a C dx C' dx' : Addr} {fs fs' : List (Str × V)} {xs : List V} (hp : H p = some (.ins C dx fs)) (h : SqL K H a xs) : SqL K (upd H p (.ins C' dx' fs')) a xs := by
  rcases h with (h | ⟨o, h⟩) | h
  · exact .inl (.inl (by rw [upd_ne fun z => by rw [z, hp] at h; cases h]; exact h))
  · exact .inl (.inr ⟨o, by rw [upd_ne fun z => by rw [z, hp] at h; cases h]; exact h⟩)
  · exact .inr h
theorem DrawAt.ins {K : PySem.W.Frag} {H : Hp} {d sc p C dx C' dx' : Addr} {fs fs' : List (Str × V)} (h : DrawAt K H d sc) (hp : H p = some (.ins C dx fs)) : DrawAt K (upd H p (.ins C' dx' fs')) d sc := by
  obtain ⟨⟨i, j, k, h1, h2⟩, xs, h3⟩ := h
  have ne : p ≠ d := fun z => by rw [z, h1] at hp; cases hp
  refine ⟨⟨i, j, k, by rw [upd_ne (Ne.symm ne)]; exact h1, h2⟩, xs, ?_⟩
  have e : del (upd H p (.ins C' dx' fs')) d = upd (del H d) p (.ins C' dx' fs') := by
    funext b
    by_cases hb : b = d
    · rw [hb, del_same, upd_ne (Ne.symm ne), del_same]
    · by_cases hp' : b = p
      · rw [hp', del_ne ne, upd_same, upd_same]
      · rw [del_ne hb, upd_ne hp', upd_ne hp', del_ne hb]
  rw [e]
  exact sqL_ins (by rw [del_ne ne]; exact hp) h3
theorem menu_odd : ("lost" : Str) ∉ menu6 ∧ ("zz" : Str) ∉ menu6 := by decide +kernel
theorem goodI_lay (n : Int) : (PyData.tuple [.str "good", .int n]).canLay0 = true := by
  simp only [PyData.canLay0, PyData.canLayAll0, good_lay "good" (by decide), Bool.and_self]
theorem goodI_sh {n : Int} : SeqAt.shaped (.tuple [.str "good", .int n]) = true := tup2_shaped (goodI_lay n) (by show max (PyData.depth (.str "good")) (max (PyData.depth (.int n)) 0) + 1 ≤ 64; exact (by decide : 1 ≤ 64))
theorem goodI_eq {n : Int} : PyData.eqv (.tuple [.str "good", .int n]) (.tuple [.str "good", .int n]) = true := SeqAt.eqv_refl _ (goodI_lay n)
section
variable {P : Program} {w : World} {K : PySem.W.Frag} {mg : Str → Option Value} {base : Heap}
def spLaw (K : PySem.W.Frag) : Sp := fun vs H Q _ => match vs with
  | [x] => ∃ (a : Addr) (xs : List Int), x = .ref a ∧ SqL K H a (xs.map V.int) ∧ ∀ H', Q (.bl true) H'
  | _ => False
theorem sc_law : FnScope ["_law_script", "_law_draws", "_law_values_here", "_law_place", "_law_k", "_law_way", "_law_key", "_law_change", "_law_due", "_law_told"] ["_law_script"] (defScope s_law) := ⟨rfl, rfl, rfl, by decide +kernel, rfl, by decide +kernel, by decide +kernel⟩
theorem b_law (T : Top w K mg) : Body0 P w K mg base ["_law_script", "_law_draws", "_law_values_here", "_law_place", "_law_k", "_law_way", "_law_key", "_law_change", "_law_due", "_law_told"] "law" s_law (He.ga K "law") 28 (spLaw K) := by
  intro cdv A outer s H0 vs Q E hr h
  match vs, h with
  | [x], h =>
  obtain ⟨a0, xs, rfl, ha, q⟩ := h
  refine ⟨_, (pss_cons (ps_set (i := 1) sc_law.nd rfl (Or.inl rfl) (pc (c_law_begin T) hr (pa_cons (pv 0) pa_nil)))
    (pss_cons (ps_set (i := 2) sc_law.nd rfl (Or.inl rfl) (pc (c_law_valuesN T) hr (pa_cons (pv 1) pa_nil)))
    (pss_cons (ps_set (i := 3) sc_law.nd rfl (Or.inl rfl) (pmk (c_Surroundings_init T) hr (pa_cons (pv 2) pa_nil)))
    (pss_cons (ps_set (i := 2) sc_law.nd rfl (Or.inl rfl) (pct (z_dict T) call_dictD boot_dict (pa_cons (pv 2) pa_nil)))
    (pss_cons (ps_for PassesOwn.never rfl (pi_range1 rfl (z_range T) (pa_cons (pc (c_law_draw T) hr (pa_cons (pv 1) (pa_cons pe_int pa_nil))) pa_nil)) (pg_name (i := 4) sc_law.nd rfl (Or.inl rfl))
      (pss_cons (ps_set (i := 5) sc_law.nd rfl (Or.inl rfl) (pc (c_law_draw T) hr (pa_cons (pv 1) (pa_cons pe_int pa_nil))))
    (pss_cons (ps_set (i := 6) sc_law.nd rfl (Or.inl rfl) (pe_ix ix_list (pe_op op_cat (pcb (z_sorted T) (call_sortedD rfl) boot_sorted (pa_cons (pv 2) pa_nil)) (pe_lst (pa_cons pe_str pa_nil))) (pc (c_law_draw T) hr (pa_cons (pv 1) (pa_cons (pe_op op_add (pcb (z_len T) call_lenD boot_len (pa_cons (pv 2) pa_nil)) pe_int) pa_nil))) (fun _ _ => rfl)))
    (pss_cons (ps_set (i := 7) sc_law.nd rfl (Or.inl rfl) (pc (c_law_given T) hr (pa_cons (pv 1) (pa_cons (pv 2) pa_nil))))
    (pss_cons (ps_mid (ps_if (PW.pt (pw_and (pt_cmpR op_eq (pv 5) pe_int (nomark _)) (pw_and1 (pt_not (pt_val (pc (c_law_set_good T) hr (pa_cons (pv 1) (pa_cons (pv 3) (pa_cons (pv 2) (pa_cons (pv 6) pa_nil))))))))))
      (pss_one (ps_ret pe_bl))
      pss_nil))
    (pss_cons (ps_set (i := 8) sc_law.nd rfl (Or.inl rfl) (pe_lst (pa_cons (pe_tup (pa_cons pe_str (pa_cons (pe_dget1 (hu_of hr) (pv 2) (pv 6) (M1.mk rfl rfl rfl rfl)) pa_nil))) (pa_cons (pe_tup (pa_cons pe_str (pa_cons (pv 6) pa_nil))) pa_nil))))
    (pss_cons (ps_mid (ps_if (PW.pt (pw_and (pt_cmpR op_eq (pv 5) pe_int (nomark _)) (pw_and1 (pt_cmpR (op_neD (room64 hr)) (pc (c_law_read T) hr (pa_cons (pv 3) (pa_cons (pv 6) pa_nil))) (pe_ix ix_list (pv 8) (pct (z_int T) call_int1 boot_int (pa_cons (pe_cmpR op_eq (pv 6) pe_str (nomark _)) pa_nil)) (fun _ _ => rfl)) (nomark _)))))
      (pss_one (ps_ret pe_bl))
      pss_nil))
    (pss_cons (ps_mid (ps_if (PW.pt (pw_and (pt_cmpR op_eq (pv 5) pe_int (nomark _)) (pw_and1 (pt_not (pt_val (pc (c_law_sum_good T) hr (pa_cons (pv 1) (pa_cons (pv 3) (pa_cons (pv 2) (pa_cons (pv 7) pa_nil))))))))))
      (pss_one (ps_ret pe_bl))
      pss_nil))
    (pss_cons (ps_mid (ps_if (pt_cmpR op_eq (pv 5) pe_int (nomark _))
      (pss_cons (ps_set (i := 9) sc_law.nd rfl (Or.inl rfl) (pc (c_law_in_place T) hr (pa_cons (pv 3) (pa_cons (pmk (c_Change_init T) hr (pa_cons (pv 7) pa_nil)) pa_nil))))
    (pss_cons (ps_if (pt_cmpR op_ne (pe_cmpR (op_alt (op_eqD (room64 hr)) (op_eqF (room0 hr))) (pv 9) (pe_tup (pa_cons pe_str (pa_cons pe_str pa_nil))) (nomark _)) (pe_cmp (pc_din (hu_of hr) pe_str (pv 7))) (nomark _))
      (pss_one (ps_ret pe_bl))
      pss_nil)
    (pss_one (ps_if (pt_cmp (pc_dnotin (hu_of hr) pe_str (pv 7)))
      (pss_cons (ps_set (i := 3) sc_law.nd rfl (Or.inl rfl) (pe_ix ix_tup (pv 9) pe_int (fun _ _ => rfl)))
    (pss_one (ps_set (i := 2) sc_law.nd rfl (Or.inl rfl) (pc (c_law_over T) hr (pa_cons (pv 2) (pa_cons (pv 7) pa_nil))))))
      pss_nil))))
      pss_nil))
    (pss_one (ps_if (pt_not (pt_val (pc (c_law_stands T) hr (pa_cons (pv 3) (pa_cons (pv 2) pa_nil)))))
      (pss_one (ps_ret pe_bl))
      pss_nil)))))))))))
    (pss_one (ps_ret pe_bl))))))), ?_⟩
  refine ⟨_, rfl, a0, xs, rfl, ha, fun d sc H1 s1 nd da => ?_⟩
  refine ⟨_, rfl, d, sc, rfl, da, fun v0 vm H2 b2 d2 nv0 hv2 ov mk6 => ?_⟩
  have no : noOdd vm := ⟨fun z => menu_odd.1 (mk6 _ z), fun z => menu_odd.2 (mk6 _ z)⟩
  -- Surroundings(..)
  refine ⟨_, rfl, ?_⟩
  intro a dx hx hdx hne
  have mI := mk_in (C := He.ga K "Surroundings") hx hdx hne
  refine ⟨a, dx, v0, vm, rfl, rfl, upd_same, mI _ _ hv2, ov.1, ov.2.1, by have := ov.2.2; omega, fun H3 m off mp pm => ⟨rfl, ?_⟩⟩
  have s3 := mk_sm hx hdx off
  -- dict(..)
  refine ⟨_, rfl, v0, mK vm, rfl, .of (s3 _ _ hv2), fun v hv => ?_⟩
  have s4 := smNew1 hv (.dK (mK vm))
  obtain ⟨dy, p, p1, p2, p3, p4⟩ := id mp
  have st : StA K (upd H3 v (.dK (mK vm))) d sc a v m vm := ⟨(d2.keep s3).keep s4, ⟨dy, p, s4 _ _ p1, s4 _ _ p2, ne_of_none p2 hv⟩, ⟨p3, p4⟩, upd_same, pm, ov, no⟩
  refine ⟨_, rfl, d, sc, 9, rfl, rfl, st.dr, by decide, by decide, fun n H5 n0 n1 b5 d5 => ?_⟩
  obtain ⟨n, rfl, hn⟩ := drawn_of n0 n1
  have st5 := st.but b5 d5
  refine ⟨_, rfl, by omega, by omega, ?_⟩
  refine for_it (walk_range (lo := 0) (n := n)) (fun i σ H' => ∃ a v m vm v4 v5 v6 v7 v8 v9, StA K H' d sc a v m vm ∧ σ = [some (.ref a0), some (.ref d), some (.ref v), some (.ref a), v4, v5, v6, v7, v8, v9]) ⟨a, v, m, vm, _, _, _, _, _, _, st5, rfl⟩ (fun _ _ _ _ _ => trivial) ?_ ?_
  case refine_2 =>
    rintro σ H6 ⟨_, _, _, _, _, _, _, _, _, _, _, rfl⟩
    exact q H6
  clear st5 st s4 hv s3 off hne hdx hx hv2 b2 b5 d5 nv0 no ov mk6 p1 p2 p3 p4 mp pm p dy a v vm m mI d2 v0 da nd s1 ha
  rintro i x σ H6 H7 hi ⟨a, v, m, vm, v4, v5, v6, v7, v8, v9, st, rfl⟩ ⟨rfl, rfl⟩
  refine ⟨_, rfl, d, sc, 4, rfl, rfl, st.dr, by decide, by decide, fun way H8 w0 w1 b8 d8 => ?_⟩
  obtain ⟨way, rfl, hw⟩ := drawn_of w0 w1
  have st8 := st.but b8 d8
  have lvm : (wKeys vm).length = vm.length := List.length_map ..
  have l3 := st.ov.2.2
  -- the key
  refine ⟨_, rfl, v, mK vm, wKeys vm, rfl, .of st8.hv, by unfold mK wKeys; rw [List.map_map, List.map_map]; rfl, by rw [lvm]; omega, fun ys nm hperm hsort hnm => ?_⟩
  have lys : ys.length = vm.length := by rw [hperm.length_eq, lvm]
  have s9 := smNew1 hnm (.lst (ys.map V.str))
  refine ⟨(by show 1 ≤ sizeLine; decide), fun l1 hl1 => ?_⟩
  have s10 := s9.trans (smNew1 hl1 (.lst [.str "lost"]))
  have nl1 : nm ≠ l1 := fun z => by rw [← z, upd_same] at hl1; cases hl1
  refine ⟨nm, l1, _, _, rfl, rfl, by rw [upd_ne nl1]; exact upd_same, upd_same, ?_, fun l2 hl2 => ?_⟩
  · rw [List.length_map]
    exact Nat.le_of_lt (small1000 (by show ys.length + 1 ≤ 1000; omega))
  have s11 := s10.trans (smNew1 hl2 (.lst (ys.map V.str ++ [.str "lost"])))
  have st11 := st8.keep s11
  have l2d : l2 ≠ d := fun z => (st8.keep s10).dr.1.ne (by rw [← z]; exact hl2)
  refine ⟨_, rfl, _, rfl, v, _, rfl, st11.hv, _, _, rfl, rfl, d, sc, _, rfl, rfl, st11.dr, ?_, ?_, fun r H12 r0 r1 b12 d12 => ?_⟩
  · show (0 : Int) < ((mK vm).length : Nat) + 1; omega
  · show (((mK vm).length : Nat) : Int) + 1 < 1000000; rw [mk_len]; omega
  have st12 := st11.but b12 d12
  obtain ⟨r, rfl, hr'⟩ := drawn_of r0 r1
  have hr2 : r < vm.length + 1 := by
    have : ((mK vm).length : Nat) = vm.length := mk_len vm
    have e : (r : Int) < ((mK vm).length : Nat) + 1 := hr'
    rw [this] at e
    omega
  obtain ⟨ks, eks⟩ : ∃ ks, ks = ys ++ [("lost" : Str)] := ⟨_, rfl⟩
  have lks : r < ks.length := by rw [eks, List.length_append, lys]; exact hr2
  have hl12 : H12 l2 = some (.lst (ks.map V.str)) := by
    refine b12.get l2d ?_
    rw [upd_same, eks, List.map_append]
    rfl
  obtain ⟨k, hk⟩ : ∃ k, ks[r]? = some k := ⟨_, List.getElem?_eq_getElem lks⟩
  have kin : k = ("lost" : Str) ∨ k ∈ wKeys vm := by
    have z := List.mem_of_getElem? hk
    rw [eks] at z
    rcases List.mem_append.mp z with z | z
    · exact .inr (hperm.mem_iff.mp z)
    · exact .inl (List.mem_singleton.mp z)
  refine ⟨l2, _, _, .str k, rfl, rfl, SqL.of hl12, atI_nat (by rw [List.getElem?_map, hk]; rfl), ?_⟩
  refine ⟨_, rfl, _, rfl, d, sc, v, vm, rfl, rfl, st12.dr, st12.hv, st.ov, st.no, fun c g H13 b13 d13 hc13 og => ?_⟩
  have st13 := st12.but b13 d13
  clear hl12 hk lks eks hr' hr2 hr hperm hsort hnm hl1 hl2 nl1 l2d s9 s10 s11 b12 b13 st12 st11 st8 b8
  -- way 0
  refine ⟨fun σ' H' => ∃ m' vm', StA K H' d sc a v m' vm' ∧ (way ≠ 0 → m' = m ∧ vm' = vm ∧ H' c = some (.dK (mK g))) ∧ σ' = [some (.ref a0), some (.ref d), some (.ref v), some (.ref a), some (.int (0 + (i : Int))), some (.int way), some (.str k), some (.ref c), v8, v9], ?_, ?_⟩
  · refine ⟨_, rfl, rfl, _, rfl, ?_⟩
    by_cases hw0 : way = 0
    · subst hw0
      refine ifT rfl ?_
      refine ⟨_, rfl, _, rfl, _, rfl, _, rfl, d, sc, a, v, m, vm, k, rfl, rfl, rfl, rfl, st13, kin, fun m' vm' H14 st14 => ?_⟩
      refine ⟨_, rfl, ifF rfl ?_⟩
      exact ⟨m', vm', st14, fun z => absurd rfl z, rfl⟩
    · refine ifF (by
        show decide (V.int way = V.int 0) = false
        exact decide_eq_false fun z => hw0 (by injection z with z; omega)) ?_
      exact ⟨m, vm, st13, fun _ => ⟨rfl, rfl, hc13⟩, rfl⟩
  rintro σ' H14 ⟨m', vm', st14, h14, rfl⟩
  obtain ⟨o, ho⟩ : ∃ o : V, o = ((wGet vm' k).map V.int).getD .non := ⟨_, rfl⟩
  refine ⟨_, rfl, v, rfl, .inl ⟨_, .of st14.hv⟩, _, rfl, (wGet vm' k).map V.int, .inl ⟨mK vm', .inr k, .of st14.hv, rfl, (valV_get _ _).symm⟩, (by show 2 ≤ sizeLine; decide), fun t1 ht1 => ?_⟩
  rw [← ho]
  have e15 := smNew1 ht1 (.tup [.str "good", o])
  refine ⟨_, rfl, (by show 2 ≤ sizeLine; decide), fun t2 ht2 => ?_⟩
  have e16 := e15.trans (smNew1 ht2 (.tup [.str "key", .str k]))
  refine ⟨(by show 2 ≤ sizeLine; decide), fun dl hdl => ?_⟩
  have e17 := e16.trans (smNew1 hdl (.lst [.ref t1, .ref t2]))
  have n12 : t1 ≠ t2 := fun z => by rw [← z, upd_same] at ht2; cases ht2
  obtain ⟨H17, eH17⟩ : ∃ H17, H17 = upd (upd (upd H14 t1 (.tup [.str "good", o])) t2 (.tup [.str "key", .str k])) dl (.lst [.ref t1, .ref t2]) := ⟨_, rfl⟩
  have g2 : H17 t2 = some (.tup [.str "key", .str k]) := by rw [eH17]; exact (smNew1 hdl _) _ _ upd_same
  have g1 : H17 t1 = some (.tup [.str "good", o]) := by
    rw [eH17]
    refine (smNew1 hdl _) _ _ ?_
    rw [upd_ne n12]; exact upd_same
  have g3 : H17 dl = some (.lst [.ref t1, .ref t2]) := by rw [eH17]; exact upd_same
  have e17' : Same H14 H17 := by rw [eH17]; exact e17
  rw [show upd (upd (upd H14 t1 (.tup [.str "good", o])) t2 (.tup [.str "key", .str k])) dl (.lst [.ref t1, .ref t2]) = H17 from eH17.symm]
  have st17 := st14.keep e17'
  have h17 : way ≠ 0 → m' = m ∧ vm' = vm ∧ H17 c = some (.dK (mK g)) := fun z => ⟨(h14 z).1, (h14 z).2.1, e17' _ _ (h14 z).2.2⟩
  clear e17 e16 e15 ht1 ht2 hdl n12 eH17 e17' st14 h14 st13 hc13
  -- way 1
  refine ⟨fun σ' H' => StA K H' d sc a v m' vm' ∧ (way ≠ 0 → m' = m ∧ vm' = vm ∧ H' c = some (.dK (mK g))) ∧ σ' = [some (.ref a0), some (.ref d), some (.ref v), some (.ref a), some (.int (0 + (i : Int))), some (.int way), some (.str k), some (.ref c), some (.ref dl), v9], ?_, ?_⟩
  · refine ⟨_, rfl, rfl, _, rfl, ?_⟩
    by_cases hw0 : way = 1
    · subst hw0
      obtain ⟨rfl, rfl, h17c⟩ := h17 (by decide)
      refine ifT rfl ?_
      have sl : ∀ {b : Str}, (b = ("lost" : Str) → decide (V.str b = V.str ("lost" : Str)) = true) ∧ (b ≠ ("lost" : Str) → decide (V.str b = V.str ("lost" : Str)) = false) := fun {b} => ⟨fun z => decide_eq_true (by rw [z]), fun z => decide_eq_false fun y => z (V.str.inj y)⟩
      refine ⟨_, rfl, _, rfl, a, m', k, rfl, rfl, st17.sur, fun n1 hn1 t5 H18 e18 ht5 => ?_, fun nk t5 H18 e18 ht5 => ?_⟩
      · have knl : k ≠ ("lost" : Str) := fun z => by
          rw [z] at hn1
          have zz : (("lost" : Str), n1) ∈ m' := wGet_some hn1
          exact st.no.1 ((List.Perm.map (fun q : Str × Int => q.1) st.pm).mem_iff.mp (List.mem_map.mpr ⟨_, zz, rfl⟩))
        have on : o = .int n1 := by rw [ho, ← wGet_perm st.ov.1.2 st.pm, hn1]; rfl
        rw [on] at g1
        refine ⟨_, rfl, _, rfl, rfl, .inr ⟨_, rfl, ?_⟩⟩
        rw [sl.2 knl]
        refine ⟨dl, _, _, .ref t1, rfl, rfl, SqL.of (e18 _ _ g3), at0, ?_⟩
        refine ⟨.tuple [.str "good", .int n1], .tuple [.str "good", .int n1], .tup (SqT.of ht5) (.cons (.str _) (.cons (.int _) .nil)), .tup (SqT.of (e18 _ _ g1)) (.cons (.str _) (.cons (.int _) .nil)), goodI_sh, goodI_sh, ?_⟩
        rw [goodI_eq]
        refine ⟨_, rfl, ifF rfl ?_⟩
        exact ⟨st17.keep e18, fun _ => ⟨rfl, rfl, e18 _ _ h17c⟩, rfl⟩
      · have kl : k = ("lost" : Str) := by
          rcases kin with z | z
          · exact z
          · exact absurd ((List.Perm.map (fun q : Str × Int => q.1) st.pm).mem_iff.mpr z) nk
        refine ⟨_, rfl, _, rfl, rfl, .inr ⟨_, rfl, ?_⟩⟩
        rw [sl.1 kl]
        subst kl
        refine ⟨dl, _, _, .ref t2, rfl, rfl, SqL.of (e18 _ _ g3), at1, ?_⟩
        refine ⟨.tuple [.str "key", .str "lost"], .tuple [.str "key", .str "lost"], .tup (SqT.of ht5) (.cons (.str _) (.cons (.str _) .nil)), .tup (SqT.of (e18 _ _ g2)) (.cons (.str _) (.cons (.str _) .nil)), keyLost_sh, keyLost_sh, ?_⟩
        rw [keyLost_eq]
        refine ⟨_, rfl, ifF rfl ?_⟩
        exact ⟨st17.keep e18, fun _ => ⟨rfl, rfl, e18 _ _ h17c⟩, rfl⟩
    · refine ifF (by
        show decide (V.int way = V.int 1) = false
        exact decide_eq_false fun z => hw0 (by injection z with z; omega)) ?_
      exact ⟨st17, h17, rfl⟩
  rintro σ' H18 ⟨st18, h18, rfl⟩
  clear g1 g2 g3 h17 st17 ho o
  -- way 2
  refine ⟨fun σ' H' => StA K H' d sc a v m' vm' ∧ (way = 3 → m' = m ∧ vm' = vm ∧ H' c = some (.dK (mK g))) ∧ σ' = [some (.ref a0), some (.ref d), some (.ref v), some (.ref a), some (.int (0 + (i : Int))), some (.int way), some (.str k), some (.ref c), some (.ref dl), v9], ?_, ?_⟩
  · refine ⟨_, rfl, rfl, _, rfl, ?_⟩
    by_cases hw0 : way = 2
    · subst hw0
      obtain ⟨rfl, rfl, h18c⟩ := h18 (by decide)
      refine ifT rfl ?_
      refine ⟨_, rfl, _, rfl, _, rfl, _, rfl, d, sc, a, v, m', vm', c, g, rfl, rfl, rfl, rfl, st18, h18c, og, fun H19 st19 => ?_⟩
      refine ⟨_, rfl, ifF rfl ?_⟩
      exact ⟨st19, fun z => (by cases z), rfl⟩
    · refine ifF (by
        show decide (V.int way = V.int 2) = false
        exact decide_eq_false fun z => hw0 (by injection z with z; omega)) ?_
      exact ⟨st18, fun z => h18 (by omega), rfl⟩
  rintro σ' H19 ⟨st19, h19, rfl⟩
  clear h18 st18
  -- way 3
  refine ⟨fun σ' H' => ∃ a' v' m' vm' w9, StA K H' d sc a' v' m' vm' ∧ σ' = [some (.ref a0), some (.ref d), some (.ref v'), some (.ref a'), some (.int (0 + (i : Int))), some (.int way), some (.str k), some (.ref c), some (.ref dl), w9], ?_, ?_⟩
  · refine ⟨_, rfl, rfl, _, rfl, ?_⟩
    by_cases hw0 : ¬ way = 3
    · refine ifF (by
        show decide (V.int way = V.int 3) = false
        exact decide_eq_false fun z => hw0 (by injection z with z; omega)) ?_
      exact ⟨a, v, m', vm', v9, st19, rfl⟩
    have hw3 : way = 3 := Decidable.not_not.mp hw0
    clear hw0
    subst hw3
    obtain ⟨rfl, rfl, hc19⟩ := h19 rfl
    refine ifT rfl ?_
    refine ⟨_, rfl, _, rfl, ?_⟩
    intro x dx2 hx hdx hne
    have mI := mk_in (C := He.ga K "Change") hx hdx hne
    refine ⟨x, dx2, c, g, rfl, rfl, upd_same, mI _ _ hc19, og.1, Nat.zero_le _, og.2.1, fun H20 g' off mp pg => ⟨rfl, ?_⟩⟩
    have s20 := mk_sm hx hdx off
    have st20 := st19.keep s20
    have ch20 : ChgAt K H20 x g' := ⟨mp, by rw [pg.length_eq]; exact og.2.1⟩
    have hc20 : H20 c = some (.dK (mK g)) := s20 _ _ hc19
    have kg : ∀ k, k ∈ wKeys g' ↔ k ∈ wKeys g := fun k => (List.Perm.map (fun q : Str × Int => q.1) pg).mem_iff
    have kv : ∀ k, k ∈ wKeys m' ↔ k ∈ wKeys vm' := fun k => (List.Perm.map (fun q : Str × Int => q.1) st.pm).mem_iff
    by_cases hl : ("lost" : Str) ∈ wKeys g
    · have lk : lack m' g' = some ("lost" : Str) := lack_lost ch20.ok.2 ((kg _).mpr hl) (fun z => st.no.1 ((kv _).mp z)) fun k hk => by
        rcases og.2.2.1 k ((kg k).mp hk) with z | z
        · exact .inl ((kv k).mpr z)
        · exact .inr z
      refine ⟨a, x, m', g', rfl, rfl, st20.sur, ch20, (fun nl => by rw [lk] at nl; cases nl), fun k2 hk2 t H21 e21 ht => ?_⟩
      rw [lk] at hk2
      cases hk2
      refine ⟨_, rfl, (by show 2 ≤ sizeLine; decide), fun t2 ht2 => .inl ?_⟩
      have e22 := smNew e21 ht2 (.tup [.str "key", .str "lost"])
      refine ⟨.tuple [.str "key", .str "lost"], .tuple [.str "key", .str "lost"], .tup (SqT.of (by rw [upd_ne (ne_of_none ht ht2)]; exact ht)) (.cons (.str _) (.cons (.str _) .nil)), .tup (SqT.of upd_same) (.cons (.str _) (.cons (.str _) .nil)), keyLost_sh, keyLost_sh, ?_⟩
      rw [keyLost_eq]
      have yes : ((wGet g ("lost" : Str)).map V.int).isSome = true := by
        cases e : wGet g "lost" with
        | none => exact absurd hl (wGet_none.mp e)
        | some n => rfl
      refine ⟨_, rfl, c, _, rfl, .inl ⟨mK g, .inr "lost", .of (e22 _ _ hc20), rfl, rfl⟩, ?_⟩
      rw [valV_get, yes]
      refine ⟨rfl, _, rfl, ifF rfl ?_⟩
      refine ⟨_, rfl, c, _, rfl, .inl ⟨mK g, .inr "lost", .of (e22 _ _ hc20), rfl, rfl⟩, _, rfl, ?_⟩
      rw [valV_get, yes]
      refine ifF rfl ?_
      exact ⟨a, v, m', vm', _, st20.keep e22, rfl⟩
    · have ki : ∀ k ∈ wKeys g', k ∈ wKeys m' := fun k hk => by
        have hk' := (kg k).mp hk
        rcases og.2.2.1 k hk' with z | z | z
        · exact (kv k).mpr z
        · exact absurd (z ▸ hk') hl
        · exact absurd (og.2.2.2 (z ▸ hk')) hl
      have lk : lack m' g' = none := lack_in ki
      refine ⟨a, x, m', g', rfl, rfl, st20.sur, ch20, fun _ dxa p0 p1 H21 ha e21 np hp1 t H22 e22 ht => ?_, fun k hk => by rw [lk] at hk; cases hk⟩
      refine ⟨_, rfl, (by show 2 ≤ sizeLine; decide), fun t2 ht2 => .inr ?_⟩
      have e23 := smNew e22 ht2 (.tup [.str "key", .str "lost"])
      refine ⟨t, t2, "good", "key", [.ref a], [.str "lost"], rfl, rfl, SqT.of (by rw [upd_ne (ne_of_none ht ht2)]; exact ht), SqT.of upd_same, by decide, ?_⟩
      have no0 : ((wGet g ("lost" : Str)).map V.int).isSome = false := by rw [wGet_none.mpr hl]; rfl
      have ca : c ≠ a := fun z => by rw [← z, hc20] at ha; cases ha
      have hc23 : (upd H22 t2 (.tup [.str "key", .str "lost"])) c = some (.dK (mK g)) := e23 _ _ (by rw [upd_ne ca]; exact e21 _ _ hc20)
      refine ⟨_, rfl, c, _, rfl, .inl ⟨mK g, .inr "lost", .of hc23, rfl, rfl⟩, ?_⟩
      rw [valV_get, no0]
      refine ⟨rfl, _, rfl, ifF rfl ?_⟩
      refine ⟨_, rfl, c, _, rfl, .inl ⟨mK g, .inr "lost", .of hc23, rfl, rfl⟩, _, rfl, ?_⟩
      rw [valV_get, no0]
      refine ifT rfl ?_
      refine ⟨_, rfl, t, _, _, .ref a, rfl, rfl, SqT.of (by rw [upd_ne (ne_of_none ht ht2)]; exact ht), at1, ?_⟩
      have va : v ≠ a := fun z => by rw [← z, st20.hv] at ha; cases ha
      have pa : p1 ≠ a := fun z => by rw [z, ha] at np; cases np
      refine ⟨_, rfl, _, rfl, v, c, vm', g, rfl, rfl, e23 _ _ (by rw [upd_ne va]; exact e21 _ _ st20.hv), hc23, og.1.2, by omega, by have := og.2.1; omega, fun v2 H24 e24 nv2 hv2 => ?_⟩
      have hp23 : (upd H22 t2 (.tup [.str "key", .str "lost"])) p1 = some (.dK (mK (wOver m' g'))) := e23 _ _ (by rw [upd_ne pa]; exact hp1)
      have kk : wKeys (wOver m' g') = wKeys m' := wKeys_over ki
      have kk2 : wKeys (wOver vm' g) = wKeys vm' := wKeys_over fun k hk => (kv k).mp (ki k ((kg k).mpr hk))
      have ll := len_keys kk2
      refine ⟨a, v2, wOver m' g', wOver vm' g, _, ⟨?_, ⟨dxa, p1, e24 _ _ (e23 _ _ upd_same), e24 _ _ hp23, ne_of_none hp23 nv2⟩, ⟨okM_over st20.ok.1 (okM_perm og.1 pg).1, by rw [kk]; exact st20.ok.2⟩, hv2, perm_over st.pm pg st.ov.1.2 og.1.2, ⟨okM_over st.ov.1 og.1.1, by rw [ll]; exact st.ov.2.1, by rw [ll]; exact st.ov.2.2⟩, ?_⟩, rfl⟩
      · exact (((st20.dr.keep e21).ins (e21 _ _ ha)).keep e23).keep e24
      · unfold noOdd
        rw [kk2]
        exact st.no
  rintro σ' H20 ⟨a', v', m2, vm2, w9, st20, rfl⟩
  clear h19 st19
  refine ⟨_, rfl, _, rfl, a', v', m2, vm2, rfl, rfl, st20.sur, st20.hv, st20.pm, st20.ov, st20.no, fun H21 e21 => ?_⟩
  refine ⟨_, rfl, ifF rfl ?_⟩
  exact ⟨a', v', m2, vm2, _, _, _, _, _, _, st20.keep e21, rfl⟩
end
end RM

set_option Elab.async false
set_option linter.all false
set_option maxRecDepth 100000
set_option maxHeartbeats 0
namespace RM
open PySem PySem.Spec PyProof.Rows L2
theorem law_ok {P : Program} {w : World} {K : PySem.W.Frag} {mg : Str → Option Value} {base : Heap} {fd : FuncData} (T : Top w K mg)
    (F : FunD K "law" "law" (defArgs s_law) (defBody s_law) (defScope s_law) [] [] (He.ga K "law") fd) : FnOk P w K mg base CX0 29 (He.ga K "law") fd ["_law_script"] (spLaw K) :=
  fn_0 F sc_law (fun vs H Q E h => match vs, h with | [_], _ => rfl) (b_law T)
end RM
open PySem PySem.W PySem.Calls PyProof.Rows
theorem PySem.Challenge.cw_readmoments_k02_whole_surroundings_holds : PySem.Challenge.rw_readmoments_k02_whole_surroundings.Holds := by
  w_on; o_law
  refine HandSHeadRun.head_any (r := OpenLaw.row PySem.Challenge.rw_readmoments_k02_whole_surroundings) (q := view (OpenLaw.row PySem.Challenge.rw_readmoments_k02_whole_surroundings).prog [32]) (H := RM.hk) (ob := RM.ob) (M := 9000) (loose := RM.names)
    (d := HandSHeadRun.topDef (OpenLaw.row PySem.Challenge.rw_readmoments_k02_whole_surroundings).prog 32) (kwd := []) RM.ob_eq
    (by kernel_rfl) (fun s => by kernel_rfl) RM.run (by kernel_rfl) (by kernel_rfl) (by kernel_rfl) (by rfl) (by first | assumption | decide +kernel) (by decide +kernel) ⟨rfl, rfl, rfl, rfl, rfl, by decide +kernel⟩ ?hw ?hc
  case hw => w_witness2
  case hc =>
    refine L2.walk_ofE (l := PySem.Challenge.rw_readmoments_k02_whole_surroundings) (n := 63) (k := 29) (x := "_law_script") (CX := L2.CX0) rfl (by decide) (by kernel_rfl) ⟨rfl, by decide, by decide⟩ ?F (fun _ _ _ _ z => z)
    intro w mg fa h Y G hmg0
    have hmg : mg ("law" : PySem.Str) = some (.ref fa) := by
      have e : (HandSHeadRun.topDef (OpenLaw.row PySem.Challenge.rw_readmoments_k02_whole_surroundings).prog 32).name = ("law" : PySem.Str) := by kernel_rfl
      rw [← e]
      exact hmg0
    obtain ⟨K, KX, c⟩ := Y
    have T : RM.Top w K mg := ⟨h, KX, G, c⟩
    obtain ⟨fd, F⟩ := RM.f_law T
    have e := hmg.symm.trans (RM.g_law T)
    cases e
    have b := L2.FunD.bindsA (ps := ["_law_script"]) F fun _ _ _ _ _ _ us hl => match us, hl with | [_], _ => rfl
    exact ⟨K, fd, RM.spLaw K, KX, fun s v => b s [v] rfl, fun H a ns hl _ hS => ⟨a, ns, rfl, hS, fun _ => rfl⟩, fun base _ _ => RM.law_ok T F⟩

